/- The law FnExactTraceOf holds at every input. Written by wip/pack.py: the kit's printed words that are used, the functions' walks as wip/gen.py prints them, and hand proofs. -/
import Derived.Test.YtimjblnglhmakaaDoorKFnExactTraceOf2
import Derived.Lib.SlicesCompact
import Derived.Test.YtimjblnglhmakaaDoorRows
import Derived.Test.YtimjblnglhmakaaDoorCards
import Derived.Test.YtimjblnglhmakaaDoorTie
import Derived.WalkKit
import Derived.ProofKit
import Derived.OpenShut
import Derived.ShutString
import Derived.ChangeOld
import Derived.Below
import Derived.SizedLaws
import Derived.LaidMore
import Derived.Stop.Joined
import Derived.Stop.LaidErr
import Derived.Lib.LaidTab
import Derived.Lib.SmallJoins
import Derived.SevenTiedAt
namespace Go.Proofs.YtimjblnglhmakaaDoor.M
open Go.RowKit Go.Proofs.YtimjblnglhmakaaDoorW.PrintMore Go.Proofs.YtimjblnglhmakaaDoorW.PrintLast Go.Proofs.YtimjblnglhmakaaDoorW.PrintWords
theorem Ev.up {α : Type} {r : α} (G : Nat → Nat → Option α) (n : Nat) (step : ∀ i, i < n → Ev (G (i + 1)) r → Ev (G i) r) (stop : Ev (G n) r) : Ev (G 0) r := by
  have key : ∀ m, m ≤ n → Ev (G (n - m)) r := by
    intro m
    induction m with
    | zero => intro _; exact stop
    | succ m ih =>
      intro hm
      have h := step (n - (m + 1)) (by omega)
      rw [show n - (m + 1) + 1 = n - m from by omega] at h
      exact h (ih (by omega))
  have := key n (Nat.le_refl _)
  rwa [Nat.sub_self] at this
theorem Ev.from {α : Type} {r : α} (G : Nat → Nat → Option α) (n i : Nat) (hi : i ≤ n) (step : ∀ i, i < n → Ev (G (i + 1)) r → Ev (G i) r) (stop : Ev (G n) r) : Ev (G i) r := by
  have h := Ev.up (fun j => G (i + j)) (n - i) (fun j hj h => step (i + j) (by omega) h) (by rw [show i + (n - i) = n from by omega]; exact stop)
  exact h
def allB (n : Nat) (p : Nat → Bool) : Bool := (List.range n).all p
theorem allB_iff {n : Nat} {p : Nat → Bool} : allB n p = true ↔ ∀ j, j < n → p j = true := by simp [allB]
theorem allB_false {n : Nat} {p : Nat → Bool} : allB n p = false ↔ ∃ j, j < n ∧ p j = false := by simp [allB]
theorem least_false {n : Nat} {p : Nat → Bool} (h : ∃ j, j < n ∧ p j = false) : ∃ j, j < n ∧ p j = false ∧ ∀ i, i < j → p i = true := by
  obtain ⟨j, hj, hp⟩ := h
  induction j using Nat.strongRecOn with
  | _ j ih =>
    by_cases hl : ∃ i, i < j ∧ p i = false
    · obtain ⟨i, hi, hpi⟩ := hl
      exact ih i hi (by omega) hpi
    · refine ⟨j, hj, hp, fun i hi => ?_⟩
      cases hc : p i with
      | true => rfl
      | false => exact absurd ⟨i, hi, hc⟩ hl
theorem Ev.all (G : Nat → Nat → Option Bool) (n : Nat) (p : Nat → Bool) (yes : ∀ i r, i < n → p i = true → Ev (G (i + 1)) r → Ev (G i) r) (no : ∀ i, i < n → p i = false → Ev (G i) false) (stop : Ev (G n) true) :
    Ev (G 0) (allB n p) := by
  cases h : allB n p with
  | true =>
    have h := allB_iff.1 h
    exact Ev.up G n (fun i hi => yes i true hi (h i hi)) stop
  | false =>
    obtain ⟨j, hj, hp, hl⟩ := least_false (allB_false.1 h)
    exact Ev.up G j (fun i hi => yes i false (by omega) (hl i hi)) (no j hj hp)
theorem Ev.const {α : Type} {x : Option α} {r : α} (h : x = some r) : Ev (fun _ => x) r := ⟨0, fun _ _ => h⟩
theorem Ev.to {α : Type} {g : Nat → Option α} {r r' : α} (h : Ev g r) (e : r = r') : Ev g r' := e ▸ h
theorem rd_nat (l : List Int) (i : Nat) : rd l (i : Int) = l.getD i 0 := by simp [rd]
theorem rd_get (l : List Int) (i : Nat) (h : i < l.length) : rd l (i : Int) = l[i] := by simp [rd, h]
theorem next64 (i n : Nat) (h : i < n) (hn : n ≤ 140737488355328) : wrap64 ((i : Int) + 1) = ((i + 1 : Nat) : Int) := by unfold wrap64; omega
theorem list_ext_getD {l l' : List Int} (hl : l.length = l'.length) (h : ∀ i, i < l.length → l.getD i 0 = l'.getD i 0) : l = l' := by
  apply List.ext_getElem hl
  intro i h1 h2
  have := h i h1
  simpa [h1, h2] using this
def EvP {α : Type} (g : Nat → Option α) (φ : α → Prop) (S : Prop) : Prop := ∃ r, Ev g r ∧ (φ r ↔ S)
theorem EvP.now {α : Type} {φ : α → Prop} {S : Prop} {r : α} (h : φ r ↔ S) : EvP (fun _ => some r) φ S := ⟨r, Ev.now r, h⟩
theorem EvP.step {α : Type} {g f : Nat → Option α} {φ : α → Prop} {S : Prop} (h : ∀ k, g (k + 1) = f k) (k : EvP f φ S) : EvP g φ S := by
  obtain ⟨r, hr, e⟩ := k
  exact ⟨r, Ev.step h hr, e⟩
theorem EvP.bind {α β : Type} {g : Nat → Option α} {f : Nat → α → Option β} {a : α} {φ : β → Prop} {S : Prop} (h : Ev g a) (k : EvP (fun n => f n a) φ S) : EvP (fun n => (g n).bind (f n)) φ S := by
  obtain ⟨r, hr, e⟩ := k
  exact ⟨r, Ev.bind h hr, e⟩
theorem EvP.iff {α : Type} {g : Nat → Option α} {φ : α → Prop} {S S' : Prop} (h : EvP g φ S) (e : S ↔ S') : EvP g φ S' := by
  obtain ⟨r, hr, h⟩ := h
  exact ⟨r, hr, h.trans e⟩
theorem EvP.loop {α : Type} {φ : α → Prop} (G : Nat → Nat → Option α) (n : Nat) (S : Nat → Prop) (Rest : Prop) (step : ∀ i T, i < n → EvP (G (i + 1)) φ T → EvP (G i) φ (S i ∧ T)) (stop : EvP (G n) φ Rest) : EvP (G 0) φ ((∀ i, i < n → S i) ∧ Rest) := by
  have key : ∀ m, m ≤ n → EvP (G (n - m)) φ ((∀ i, n - m ≤ i → i < n → S i) ∧ Rest) := by
    intro m
    induction m with
    | zero => intro _; exact EvP.iff stop ⟨fun h => ⟨fun i h1 h2 => by omega, h⟩, fun h => h.2⟩
    | succ m ih =>
      intro hm
      have h := ih (by omega)
      rw [show n - m = n - (m + 1) + 1 by omega] at h
      refine EvP.iff (step (n - (m + 1)) _ (by omega) h) ?_
      constructor
      · rintro ⟨h1, h2, h3⟩
        refine ⟨fun i hi hn => ?_, h3⟩
        by_cases e : i = n - (m + 1)
        · rw [e]; exact h1
        · exact h2 i (by omega) hn
      · rintro ⟨h1, h2⟩
        exact ⟨h1 _ (Nat.le_refl _) (by omega), fun i hi hn => h1 i (by omega) hn, h2⟩
  have := key n (Nat.le_refl _)
  rw [Nat.sub_self] at this
  exact EvP.iff this ⟨fun ⟨h, r⟩ => ⟨fun i hi => h i (Nat.zero_le _) hi, r⟩, fun ⟨h, r⟩ => ⟨fun i _ hi => h i hi, r⟩⟩
end Go.Proofs.YtimjblnglhmakaaDoor.M
namespace Go.Proofs.YtimjblnglhmakaaDoor.M
open Go.RowKit Go.Proofs.YtimjblnglhmakaaDoorW.PrintMore Go.Proofs.YtimjblnglhmakaaDoorW.PrintLast Go.Proofs.YtimjblnglhmakaaDoorW.PrintWords Go.Proofs.YtimjblnglhmakaaDoor.P
def elems (n s : Nat) : List Nat := (List.range n).filter fun j => s.testBit j
theorem mem_elems {n s j : Nat} : j ∈ elems n s ↔ j < n ∧ s.testBit j = true := by simp [elems]
theorem elems_zero (n : Nat) : elems n 0 = [] := by simp [elems]
def ints (l : List Nat) : List Int := l.map fun (j : Nat) => (j : Int)
theorem ints_length (l : List Nat) : (ints l).length = l.length := by simp [ints]
theorem elems_length_le (n s : Nat) : (elems n s).length ≤ n := by
  unfold elems
  exact Nat.le_trans (List.length_filter_le _ _) (by simp)
theorem filter_range_split (n c : Nat) (h : c < n) (p : Nat → Bool) : (List.range n).filter p = (List.range c).filter p ++ ((if p c then [c] else []) ++ (List.range' (c + 1) (n - (c + 1))).filter p) := by
  have e : List.range n = List.range c ++ ([c] ++ List.range' (c + 1) (n - (c + 1))) := by
    rw [List.range_eq_range', List.range_eq_range']
    have h1 : n = c + (1 + (n - (c + 1))) := by omega
    have e1 : List.range' 0 n = List.range' 0 c ++ List.range' c (1 + (n - (c + 1))) := by
      have := List.range'_append_1 (s := 0) (m := c) (n := 1 + (n - (c + 1)))
      rw [Nat.zero_add] at this
      rw [this, ← h1]
    rw [e1, Nat.add_comm 1, List.range'_succ]
    rfl
  rw [e, List.filter_append, List.filter_append]
  congr 1
  cases hp : p c <;> simp [hp]
theorem elems_least (n s c m : Nat) (hs : s = 2 ^ c * (2 * m + 1)) (hn : s < 2 ^ n) : elems n s = c :: elems n (s &&& (s - 1)) := by
  have hp : 0 < 2 ^ c := Nat.two_pow_pos c
  have e1 : s - 1 = 2 ^ (c + 1) * m + (2 ^ c - 1) := by
    have a1 : 2 ^ c * (2 * m + 1) = 2 ^ (c + 1) * m + 2 ^ c := by rw [Nat.pow_succ, Nat.mul_add, Nat.mul_assoc]; simp
    omega
  have hb : ∀ j, s.testBit j = if j < c then false else if j = c then true else m.testBit (j - (c + 1)) := by
    intro j
    rw [hs, Nat.mul_comm, Nat.testBit_mul_two_pow]
    by_cases h1 : j < c
    · rw [if_pos h1]; simp; omega
    · rw [if_neg h1]
      by_cases h2 : j = c
      · subst h2; simp
      · rw [if_neg h2]
        obtain ⟨d, rfl⟩ : ∃ d, j = c + (d + 1) := ⟨j - c - 1, by omega⟩
        rw [show c + (d + 1) - c = d + 1 from by omega, show c + (d + 1) - (c + 1) = d from by omega, Nat.testBit_succ, show (2 * m + 1) / 2 = m from by omega]
        simp
  have hb1 : ∀ j, (s - 1).testBit j = if j < c then true else if j = c then false else m.testBit (j - (c + 1)) := by
    intro j
    rw [e1, Nat.testBit_two_pow_mul_add m (by have : 2 ^ c < 2 ^ (c + 1) := Nat.pow_lt_pow_right (by decide) (by omega); omega)]
    by_cases h1 : j < c
    · rw [if_pos (by omega), if_pos h1, Nat.testBit_two_pow_sub_one]; simp [h1]
    · rw [if_neg h1]
      by_cases h2 : j = c
      · subst h2; rw [if_pos (by omega), if_pos rfl, Nat.testBit_two_pow_sub_one]; simp
      · rw [if_neg (by omega), if_neg h2]
  have hb2 : ∀ j, (s &&& (s - 1)).testBit j = if j ≤ c then false else s.testBit j := by
    intro j
    rw [Nat.testBit_and, hb, hb1]
    by_cases h1 : j < c
    · simp [h1, Nat.le_of_lt h1]
    · by_cases h2 : j = c
      · simp [h2]
      · rw [if_neg h1, if_neg h1, if_neg h2, if_neg h2, if_neg (by omega)]; simp
  have hc : c < n := by
    apply Nat.lt_of_not_le
    intro hle
    have h1 : 2 ^ n ≤ 2 ^ c := Nat.pow_le_pow_right (by decide) hle
    have h2 : 2 ^ c ≤ s := by rw [hs]; exact Nat.le_mul_of_pos_right _ (by omega)
    omega
  unfold elems
  rw [filter_range_split n c hc, filter_range_split n c hc (fun j => (s &&& (s - 1)).testBit j)]
  have z1 : (List.range c).filter (fun j => s.testBit j) = [] := by
    rw [List.filter_eq_nil_iff]; intro j hj; simp at hj; rw [hb, if_pos hj]; simp
  have z2 : (List.range c).filter (fun j => (s &&& (s - 1)).testBit j) = [] := by
    rw [List.filter_eq_nil_iff]; intro j hj; simp at hj; rw [hb2, if_pos (by omega)]; simp
  have z3 : (List.range' (c + 1) (n - (c + 1))).filter (fun j => s.testBit j) = (List.range' (c + 1) (n - (c + 1))).filter (fun j => (s &&& (s - 1)).testBit j) := by
    apply List.filter_congr
    intro j hj
    rw [List.mem_range'] at hj
    obtain ⟨i, hi, rfl⟩ := hj
    rw [hb2, if_neg (by omega)]
  have y1 : s.testBit c = true := by rw [hb, if_neg (by omega), if_pos rfl]
  have y2 : (s &&& (s - 1)).testBit c = false := by rw [hb2, if_pos (Nat.le_refl _)]
  rw [z1, z2, z3, if_pos y1, y2]
  rfl
theorem and_pred_lt (s : Nat) (h : s ≠ 0) : s &&& (s - 1) < s := Nat.lt_of_le_of_lt Nat.and_le_right (by omega)
theorem u64_small (n : Nat) (h : n < 18446744073709551616) : IntKind.u64.wrap (n : Int) = (n : Int) := by
  simp [IntKind.wrap, IntKind.signed, IntKind.bits]
  omega
theorem members_ev (n : Nat) (hn : n ≤ 62) (s : Nat) (hs : s < 2 ^ n) : Ev (fun k => impl_members.f k (s : Int)) (ints (elems n s)) := by
  have key : ∀ d s, s ≤ d → s < 2 ^ n → ∀ acc : List Int, acc.length + (elems n s).length ≤ 64 → Ev (fun k => impl_members.l0 k (s : Int) acc) (acc ++ ints (elems n s)) := by
    intro d
    induction d with
    | zero =>
      intro s h0 _ acc _
      obtain rfl : s = 0 := by omega
      refine Ev.step (fun _ => rfl) ?_
      simp only [impl_members.l0, Int.natCast_zero, if_true]
      rw [elems_zero]
      simpa [ints] using Ev.now acc
    | succ d ih =>
      intro s h0 hs acc ha
      by_cases hz : s = 0
      · exact ih s (by omega) hs acc ha
      · have hs2 := lt62 hs hn
        obtain ⟨m, hm, hk⟩ := Lib.ctzFrom_spec 64 s (by omega) (by omega)
        have he := elems_least n s _ m hm hs
        have hl : (elems n s).length = (elems n (s &&& (s - 1))).length + 1 := by rw [he]; rfl
        refine Ev.step (fun _ => rfl) ?_
        have hc : Lib.ctz 64 s = Lib.ctzFrom 64 s := by unfold Lib.ctz; rw [if_neg hz]
        have e1 : bits_TrailingZeros.f (IntKind.u64.wrap (s : Int)) = some ((Lib.ctzFrom 64 s : Nat) : Int) := by
          rw [u64_small s (by omega)]
          unfold bits_TrailingZeros.f bits_TrailingZeros64.f
          rw [if_pos ⟨by omega, by omega⟩, Int.toNat_natCast, hc]
          rfl
        have e2 : Go.bits .and .i64 (s : Int) (wrap64 ((s : Int) - 1)) = ((s &&& (s - 1) : Nat) : Int) := by
          rw [show wrap64 ((s : Int) - 1) = ((s - 1 : Nat) : Int) from by unfold wrap64; omega]
          exact and_i64 _ _ (by omega) (by omega)
        simp only [impl_members.l0, if_neg (show ¬ (s : Int) = 0 by omega), e1, Option.bind_some, if_pos (show acc.length < 17592186044416 by omega), e2]
        have := ih (s &&& (s - 1)) (by have := and_pred_lt s hz; omega) (Nat.lt_of_le_of_lt Nat.and_le_left hs) (acc ++ [((Lib.ctzFrom 64 s : Nat) : Int)]) (by simp; omega)
        refine Ev.to this ?_
        rw [he]
        simp [ints]
  have h := key s s (Nat.le_refl _) hs [] (by have := elems_length_le n s; simp; omega)
  exact h
theorem orHas_eq (s : Nat) (j : Nat) (hj : j ≤ 64) : spec_orHas.f (s : Int) (j : Int) = some (s.testBit j) := by
  unfold spec_orHas.f
  rw [if_pos (by omega), has_mod _ _ (by omega) hj, bit_cast]
theorem orList_ev (n : Nat) (hn : n ≤ 62) (s : Nat) (hs : s < 2 ^ n) : Ev (fun k => spec_orList.f k (s : Int)) (ints (elems n s)) := by
  -- up to the place behind the last element
  obtain ⟨t, ht, hlt, hgt⟩ : ∃ t, t ≤ n ∧ s / 2 ^ t = 0 ∧ ∀ i, i < t → 0 < s / 2 ^ i := by
    refine ⟨(if s = 0 then 0 else Nat.log2 s + 1), ?_, ?_, ?_⟩
    · split
      · omega
      · rename_i h
        have := (Nat.log2_lt h (k := n)).2 hs
        omega
    · split
      · rename_i h; simp [h]
      · exact Nat.div_eq_of_lt (Nat.lt_log2_self)
    · intro i hi
      split at hi
      · omega
      · rename_i h
        apply Nat.div_pos _ (Nat.two_pow_pos _)
        exact Nat.le_trans (Nat.pow_le_pow_right (by decide) (by omega : i ≤ Nat.log2 s)) (Nat.log2_self_le h)
  have hs2 := lt62 hs hn
  have hsplit : elems n s = elems t s := by
    unfold elems
    have e : List.range n = List.range t ++ List.range' t (n - t) := by
      rw [List.range_eq_range', List.range_eq_range']
      have := List.range'_append_1 (s := 0) (m := t) (n := n - t)
      rw [Nat.zero_add] at this
      rw [this]
      congr 1
      omega
    rw [e, List.filter_append]
    have z : (List.range' t (n - t)).filter (fun j => s.testBit j) = [] := by
      rw [List.filter_eq_nil_iff]
      intro j hj
      rw [List.mem_range'] at hj
      obtain ⟨i, hi, rfl⟩ := hj
      have h1 : s < 2 ^ t := by
        rcases Nat.div_eq_zero_iff.1 hlt with h | h
        · exact absurd h (Nat.ne_of_gt (Nat.two_pow_pos _))
        · exact h
      rw [Nat.testBit_lt_two_pow (Nat.lt_of_lt_of_le h1 (Nat.pow_le_pow_right (by decide) (by omega)))]
      simp
    rw [z, List.append_nil]
  rw [hsplit]
  unfold spec_orList.f
  refine Ev.up (fun i k => spec_orList.l0 k (s : Int) (ints (elems i s)) (i : Int)) t ?_ ?_
  · intro i hi h
    refine Ev.step (fun _ => rfl) ?_
    have e1 : shr .i64 (s : Int) (i : Int) > 0 := by rw [shr_nat s i (by omega)]; have := hgt i hi; omega
    have hlen := elems_length_le i s
    have e2 : elems (i + 1) s = elems i s ++ (if s.testBit i then [i] else []) := by
      unfold elems
      rw [List.range_succ, List.filter_append]
      congr 1
      cases hb2 : s.testBit i <;> simp [hb2]
    simp only [spec_orList.l0, if_pos (show (0 : Int) ≤ (i : Int) by omega), if_pos e1, orHas_eq s i (by omega), Option.bind_some, next64 i t hi (by omega)]
    rw [e2] at h
    cases hb : s.testBit i with
    | true =>
      simp only [if_true, ints_length, if_pos (show (elems i s).length < 17592186044416 by omega)]
      rw [hb] at h
      simpa [ints] using h
    | false =>
      rw [hb] at h
      simpa [ints] using h
  · refine Ev.step (fun _ => rfl) ?_
    have e1 : ¬ shr .i64 (s : Int) (t : Int) > 0 := by rw [shr_nat s t (by omega)]; omega
    simp only [spec_orList.l0, if_pos (show (0 : Int) ≤ (t : Int) by omega), if_neg e1]
    exact Ev.now _
end Go.Proofs.YtimjblnglhmakaaDoor.M
namespace Go.Proofs.YtimjblnglhmakaaDoor.M
open Go.RowKit Go.Proofs.YtimjblnglhmakaaDoorW.PrintMore Go.Proofs.YtimjblnglhmakaaDoorW.PrintLast Go.Proofs.YtimjblnglhmakaaDoorW.PrintWords Go.Proofs.YtimjblnglhmakaaDoor.P
def isRel (n : Int) (l : List Int) : Bool := decide (0 ≤ n ∧ n ≤ 10 ∧ (l.length : Int) = n ∧ ∀ x ∈ l, 0 ≤ x ∧ x ≤ ((2 ^ n.toNat : Nat) : Int) - 1)
def row (l : List Int) (i : Nat) : Nat := (l.getD i 0).toNat
def B (l : List Int) (i j : Nat) : Bool := (row l i).testBit j
structure Rel (n : Nat) (l : List Int) : Prop where
  le : n ≤ 10
  len : l.length = n
  mem : ∀ x ∈ l, 0 ≤ x ∧ x ≤ ((2 ^ n : Nat) : Int) - 1
theorem isRel_iff {n : Int} {l : List Int} : isRel n l = true ↔ ∃ m : Nat, n = m ∧ Rel m l := by
  unfold isRel
  rw [decide_eq_true_iff]
  constructor
  · rintro ⟨h0, h1, h2, h3⟩
    obtain ⟨m, rfl⟩ := Int.eq_ofNat_of_zero_le h0
    exact ⟨m, rfl, by omega, by omega, by simpa using h3⟩
  · rintro ⟨m, rfl, h⟩
    refine ⟨by omega, by have := h.le; omega, by have := h.len; omega, by simpa using h.mem⟩
section
variable {n : Nat} {l : List Int}
theorem Rel.getD (h : Rel n l) (i : Nat) : l.getD i 0 = ((row l i : Nat) : Int) := by
  unfold row
  by_cases hi : i < l.length
  · have := (h.mem l[i] (List.getElem_mem hi)).1
    rw [show l.getD i 0 = l[i] by simp [hi]]
    omega
  · rw [show l.getD i 0 = 0 by simp [Nat.not_lt.1 hi]]
    rfl
theorem Rel.row_lt (h : Rel n l) (i : Nat) : row l i < 2 ^ n := by
  have hp : 0 < 2 ^ n := Nat.two_pow_pos n
  by_cases hi : i < l.length
  · have h1 := h.mem l[i] (List.getElem_mem hi)
    have h2 := h.getD i
    rw [show l.getD i 0 = l[i] by simp [hi]] at h2
    omega
  · unfold row
    rw [show l.getD i 0 = 0 by simp [Nat.not_lt.1 hi]]
    simpa using hp
theorem Rel.row_62 (h : Rel n l) (i : Nat) : row l i < 9223372036854775808 := lt62 (h.row_lt i) (by have := h.le; omega)
theorem Rel.B_lt (h : Rel n l) {i j : Nat} (hb : B l i j = true) : j < n := by
  apply Nat.lt_of_not_le
  intro hle
  unfold B at hb
  rw [Nat.testBit_lt_two_pow (Nat.lt_of_lt_of_le (h.row_lt i) (Nat.pow_le_pow_right (by decide) hle))] at hb
  cases hb
theorem Rel.B_lt' (h : Rel n l) {i j : Nat} (hb : B l i j = true) : i < n := by
  apply Nat.lt_of_not_le
  intro hle
  unfold B row at hb
  rw [show l.getD i 0 = 0 by simp [h.len, hle]] at hb
  simp at hb
theorem Rel.rd (h : Rel n l) (i : Nat) : rd l (i : Int) = ((row l i : Nat) : Int) := by rw [rd_nat, h.getD]
theorem Rel.bit (h : Rel n l) (i j : Nat) : M.bit (Go.Proofs.YtimjblnglhmakaaDoorW.PrintWords.rd l (i : Int)) j = B l i j := by rw [h.rd, bit_cast]; rfl
end
def relL (n : Nat) (p : Nat → Nat → Bool) : List Int := (List.range n).map fun i => ((setOf n (p i) : Nat) : Int)
theorem relL_length (n : Nat) (p : Nat → Nat → Bool) : (relL n p).length = n := by simp [relL]
theorem relL_row (n : Nat) (p : Nat → Nat → Bool) (i : Nat) (h : i < n) : row (relL n p) i = setOf n (p i) := by
  simp [row, relL, h]
theorem relL_B (n : Nat) (p : Nat → Nat → Bool) (i j : Nat) : B (relL n p) i j = (decide (i < n) && (decide (j < n) && p i j)) := by
  unfold B
  by_cases h : i < n
  · rw [relL_row n p i h, testBit_setOf]; simp [h]
  · have : row (relL n p) i = 0 := by simp [row, relL, h]
    rw [this]; simp [h]
theorem relL_rel (n : Nat) (hn : n ≤ 10) (p : Nat → Nat → Bool) : Rel n (relL n p) where
  le := hn
  len := relL_length n p
  mem := by
    intro x hx
    simp only [relL, List.mem_map, List.mem_range] at hx
    obtain ⟨i, _, rfl⟩ := hx
    have := setOf_lt n (p i)
    omega
theorem within_eq (a b c : Int) : impl_within.f a b c = some (decide (b ≤ a ∧ a ≤ c)) := by
  unfold impl_within.f
  by_cases h : a ≥ b
  · rw [if_pos h]; simp [h]
  · rw [if_neg h]; simp; omega
theorem l1In_eq (a b c : Int) : spec_l1In.f a b c = some (decide (b ≤ a ∧ a ≤ c)) := by
  unfold spec_l1In.f
  by_cases h : a ≥ b
  · rw [if_pos h]; simp [h]
  · rw [if_neg h]; simp; omega
def allIn (l : List Int) (a b : Int) : Bool := decide (∀ x ∈ l, a ≤ x ∧ x ≤ b)
theorem allIn_eq (l : List Int) (a b : Int) : allIn l a b = allB l.length fun i => decide (a ≤ l.getD i 0 ∧ l.getD i 0 ≤ b) := by
  rw [Bool.eq_iff_iff, allB_iff]
  simp only [allIn, decide_eq_true_iff]
  constructor
  · intro h i hi
    have := h l[i] (List.getElem_mem hi)
    simpa [hi] using this
  · intro h x hx
    obtain ⟨i, hi, rfl⟩ := List.getElem_of_mem hx
    have := h i hi
    simpa [hi] using this
theorem allWithin_ev (l : List Int) (a b : Int) (hl : l.length ≤ 140737488355328) : Ev (fun k => impl_allWithin.f k l a b) (allIn l a b) := by
  rw [allIn_eq]
  unfold impl_allWithin.f
  refine Ev.all (fun i k => impl_allWithin.l0 k a b l (l.length : Int) (i : Int)) l.length _ ?_ ?_ ?_
  · intro i r hi hp h
    refine Ev.step (fun _ => rfl) ?_
    rw [decide_eq_true_iff] at hp
    simp only [impl_allWithin.l0, if_pos (show (i : Int) < (l.length : Int) by omega), if_pos (show (0 : Int) ≤ (i : Int) by omega), within_eq, rd_nat, Option.bind_some, decide_eq_true hp, if_true, next64 i l.length hi hl]
    exact h
  · intro i hi hp
    refine Ev.step (fun _ => rfl) ?_
    rw [decide_eq_false_iff_not] at hp
    simp only [impl_allWithin.l0, if_pos (show (i : Int) < (l.length : Int) by omega), if_pos (show (0 : Int) ≤ (i : Int) by omega), within_eq, rd_nat, Option.bind_some, decide_eq_false hp, Bool.false_eq_true, if_false]
    exact Ev.now _
  · refine Ev.step (fun _ => rfl) ?_
    simp only [impl_allWithin.l0, if_neg (show ¬ (l.length : Int) < (l.length : Int) by omega)]
    exact Ev.now _
theorem l1All_ev (l : List Int) (a b : Int) (hl : l.length ≤ 140737488355328) : Ev (fun k => spec_l1All.f k l a b) (allIn l a b) := by
  rw [allIn_eq]
  unfold spec_l1All.f
  refine Ev.all (fun i k => spec_l1All.l0 k a b l (l.length : Int) (i : Int)) l.length _ ?_ ?_ ?_
  · intro i r hi hp h
    refine Ev.step (fun _ => rfl) ?_
    rw [decide_eq_true_iff] at hp
    simp only [spec_l1All.l0, if_pos (show (i : Int) < (l.length : Int) by omega), if_pos (show (0 : Int) ≤ (i : Int) by omega), l1In_eq, rd_nat, Option.bind_some, decide_eq_true hp, if_true, next64 i l.length hi hl]
    exact h
  · intro i hi hp
    refine Ev.step (fun _ => rfl) ?_
    rw [decide_eq_false_iff_not] at hp
    simp only [spec_l1All.l0, if_pos (show (i : Int) < (l.length : Int) by omega), if_pos (show (0 : Int) ≤ (i : Int) by omega), l1In_eq, rd_nat, Option.bind_some, decide_eq_false hp, Bool.false_eq_true, if_false]
    exact Ev.now _
  · refine Ev.step (fun _ => rfl) ?_
    simp only [spec_l1All.l0, if_neg (show ¬ (l.length : Int) < (l.length : Int) by omega)]
    exact Ev.now _
theorem pow_of (n : Int) (h0 : 0 ≤ n) (h1 : n ≤ 10) : wrap64 (shl .i64 1 n - 1) = ((2 ^ n.toNat : Nat) : Int) - 1 := by
  obtain ⟨m, rfl⟩ := Int.eq_ofNat_of_zero_le h0
  rw [shl1 m (by omega), Int.toNat_natCast]
  have h2 : (2 : Nat) ^ m ≤ 2 ^ 10 := Nat.pow_le_pow_right (by decide) (by omega)
  have h3 : 0 < (2 : Nat) ^ m := Nat.two_pow_pos m
  exact wrap64_id _ (by omega) (by omega)
theorem isRel_parts (n : Int) (l : List Int) : isRel n l = (decide (0 ≤ n ∧ n ≤ 10) && (decide ((l.length : Int) = n) && allIn l 0 (((2 ^ n.toNat : Nat) : Int) - 1))) := by
  rw [Bool.eq_iff_iff]
  simp only [isRel, allIn, Bool.and_eq_true, decide_eq_true_iff]
  exact ⟨fun ⟨a, b, c, d⟩ => ⟨⟨a, b⟩, c, d⟩, fun ⟨⟨a, b⟩, c, d⟩ => ⟨a, b, c, d⟩⟩
theorem IsRelation_ev (n : Int) (l : List Int) (hl : l.length ≤ 140737488355328) : Ev (fun k => impl_IsRelation.f k n l) (isRel n l) := by
  unfold impl_IsRelation.f
  simp only [within_eq, Option.bind_some]
  rw [isRel_parts]
  by_cases h1 : 0 ≤ n ∧ n ≤ 10
  · by_cases h2 : (l.length : Int) = n
    · simp only [decide_eq_true h1, if_true, if_pos h2, if_pos h1.1, pow_of n h1.1 h1.2, decide_eq_true h2, Bool.true_and]
      exact Ev.bind (allWithin_ev l _ _ hl) (Ev.now _)
    · simp only [decide_eq_true h1, if_true, if_neg h2, decide_eq_false h2, Bool.false_and, Bool.and_false]
      exact Ev.now _
  · simp only [decide_eq_false h1, Bool.false_eq_true, if_false, Bool.false_and]
    exact Ev.now _
theorem orRelation_ev (n : Int) (l : List Int) (hl : l.length ≤ 140737488355328) : Ev (fun k => spec_orRelation.f k n l) (isRel n l) := by
  unfold spec_orRelation.f
  simp only [l1In_eq, Option.bind_some]
  rw [isRel_parts]
  by_cases h1 : 0 ≤ n ∧ n ≤ 10
  · by_cases h2 : (l.length : Int) = n
    · simp only [decide_eq_true h1, if_true, if_pos h2, if_pos h1.1, pow_of n h1.1 h1.2, decide_eq_true h2, Bool.true_and]
      exact Ev.bind (l1All_ev l _ _ hl) (Ev.now _)
    · simp only [decide_eq_true h1, if_true, if_neg h2, decide_eq_false h2, Bool.false_and, Bool.and_false]
      exact Ev.now _
  · simp only [decide_eq_false h1, Bool.false_eq_true, if_false, Bool.false_and]
    exact Ev.now _
def closedAt (n : Nat) (l : List Int) (i : Nat) : Bool := allB (elems n (row l i)).length fun q => diff (row l ((elems n (row l i)).getD q 0)) (row l i) == 0
def isOrd (n : Int) (l : List Int) : Bool := isRel n l && allB l.length fun i => !B l i i && closedAt l.length l i
theorem better_eq {n : Nat} {l : List Int} (h : Rel n l) (m : Int) (i j : Nat) (hi : i < n) (hj : j ≤ 62) : impl_Order_better.f m l (i : Int) (j : Int) = some (B l i j) := by
  unfold impl_Order_better.f
  rw [if_pos (by omega), if_pos (by rw [h.len]; omega), if_pos (by omega), has_and _ _ (by rw [h.rd]; omega) (by rw [h.rd]; have := h.row_62 i; omega) (by omega), h.bit]
theorem diff_zero (a b : Nat) : (diff a b = 0) ↔ ∀ j, a.testBit j = true → b.testBit j = true := by
  constructor
  · intro h j hj
    have := testBit_diff a b j
    rw [h, hj] at this
    simpa using this.symm
  · intro h
    apply Nat.eq_of_testBit_eq
    intro j
    rw [testBit_diff]
    cases hj : a.testBit j with
    | false => simp
    | true => simp [h j hj]
theorem ints_getD (l : List Nat) (q : Nat) (h : q < l.length) : (ints l).getD q 0 = ((l.getD q 0 : Nat) : Int) := by simp [ints, h]
theorem closed_iff {n : Nat} {l : List Int} (h : Rel n l) (i : Nat) : closedAt n l i = true ↔ ∀ j k, B l i j = true → B l j k = true → B l i k = true := by
  unfold closedAt
  rw [allB_iff]
  constructor
  · intro H j k hij hjk
    have hm : j ∈ elems n (row l i) := mem_elems.2 ⟨h.B_lt hij, hij⟩
    obtain ⟨q, hq, e⟩ := List.getElem_of_mem hm
    have := H q hq
    rw [show (elems n (row l i)).getD q 0 = j by simp [hq, e], beq_iff_eq, diff_zero] at this
    exact this k hjk
  · intro H q hq
    rw [beq_iff_eq, diff_zero]
    intro k hk
    have hm : (elems n (row l i)).getD q 0 ∈ elems n (row l i) := by simp [hq]
    exact H _ k (mem_elems.1 hm).2 hk
structure Ord (n : Nat) (l : List Int) : Prop extends Rel n l where
  irr : ∀ i, B l i i = false
  trans : ∀ i j k, B l i j = true → B l j k = true → B l i k = true
theorem isOrd_iff {n : Int} {l : List Int} : isOrd n l = true ↔ ∃ m : Nat, n = m ∧ Ord m l := by
  unfold isOrd
  rw [Bool.and_eq_true, isRel_iff, allB_iff]
  constructor
  · rintro ⟨⟨m, rfl, h⟩, H⟩
    rw [h.len] at H
    refine ⟨m, rfl, h, fun i => ?_, fun i j k hij hjk => ?_⟩
    · cases hc : B l i i with
      | false => rfl
      | true =>
        have := H i (h.B_lt hc)
        rw [hc] at this
        simp at this
    · have := H i (h.B_lt' hij)
      rw [Bool.and_eq_true] at this
      exact (closed_iff h i).1 this.2 j k hij hjk
  · rintro ⟨m, rfl, h⟩
    refine ⟨⟨m, rfl, h.toRel⟩, fun i _ => ?_⟩
    rw [h.irr i, h.len, (closed_iff h.toRel i).2 (h.trans i)]
    rfl
theorem IsOrder_ev (n : Int) (l : List Int) (hl : l.length ≤ 140737488355328) : Ev (fun k => impl_IsOrder.f k n l) (isOrd n l) := by
  unfold impl_IsOrder.f isOrd
  refine Ev.bind (IsRelation_ev n l hl) ?_
  cases hr : isRel n l with
  | false => simp only [Bool.false_eq_true, if_false, Bool.false_and]; exact Ev.now _
  | true =>
    obtain ⟨m, rfl, h⟩ := isRel_iff.1 hr
    have hlen := h.len
    have h10 := h.le
    simp only [if_true, Bool.true_and]
    refine Ev.all (fun i k => impl_IsOrder.l0 k l (l.length : Int) (i : Int) (m : Int) l) l.length _ ?_ ?_ ?_
    · intro i r hi hp hrest
      rw [Bool.and_eq_true] at hp
      have hB : B l i i = false := by simpa using hp.1
      refine Ev.step (fun _ => rfl) ?_
      simp only [impl_IsOrder.l0, if_pos (show (i : Int) < (l.length : Int) by omega), if_pos (show (0 : Int) ≤ (i : Int) by omega), better_eq h _ i i (by omega) (by omega), Option.bind_some, hB, Bool.false_eq_true, if_false, h.rd]
      refine Ev.bind (members_ev m (by omega) (row l i) (h.row_lt i)) ?_
      have hE := elems_length_le m (row l i)
      rw [ints_length]
      refine Ev.up (fun q k => impl_IsOrder.l1 k ((row l i : Nat) : Int) l (l.length : Int) (i : Int) (ints (elems m (row l i))) ((elems m (row l i)).length : Int) (q : Int) (m : Int) l) (elems m (row l i)).length ?_ ?_
      · intro q hq hn
        refine Ev.step (fun _ => rfl) ?_
        have hmem : (elems m (row l i)).getD q 0 ∈ elems m (row l i) := by simp [hq]
        have hlt := (mem_elems.1 hmem).1
        have e0 : rd (ints (elems m (row l i))) (q : Int) = (((elems m (row l i)).getD q 0 : Nat) : Int) := by rw [rd_nat, ints_getD _ _ hq]
        have hd : diff (row l ((elems m (row l i)).getD q 0)) (row l i) = 0 := by
          have hc := hp.2
          unfold closedAt at hc
          rw [allB_iff, hlen] at hc
          exact beq_iff_eq.1 (hc q hq)
        simp only [impl_IsOrder.l1, if_pos (show (q : Int) < ((elems m (row l i)).length : Int) by omega), if_pos (show (0 : Int) ≤ (q : Int) by omega), ints_length, e0, if_pos (show (0 : Int) ≤ (((elems m (row l i)).getD q 0 : Nat) : Int) by omega), if_pos (show (((elems m (row l i)).getD q 0 : Nat) : Int) < (l.length : Int) by omega), h.rd, andNot_i64 _ _ (h.row_62 _) (h.row_62 _), hd, Int.natCast_zero, if_true, next64 q _ hq (by omega)]
        exact hn
      · refine Ev.step (fun _ => rfl) ?_
        simp only [impl_IsOrder.l1, if_neg (show ¬ ((elems m (row l i)).length : Int) < ((elems m (row l i)).length : Int) by omega), next64 i l.length hi (by omega)]
        exact hrest
    · intro i hi hp
      refine Ev.step (fun _ => rfl) ?_
      simp only [impl_IsOrder.l0, if_pos (show (i : Int) < (l.length : Int) by omega), if_pos (show (0 : Int) ≤ (i : Int) by omega), better_eq h _ i i (by omega) (by omega), Option.bind_some]
      cases hB : B l i i with
      | true => simp only [if_true]; exact Ev.now _
      | false =>
        rw [hB] at hp
        have hc : closedAt l.length l i = false := by simpa using hp
        unfold closedAt at hc
        rw [hlen] at hc
        obtain ⟨j, hj, hbad, hless⟩ := least_false (allB_false.1 hc)
        simp only [Bool.false_eq_true, if_false, h.rd]
        refine Ev.bind (members_ev m (by omega) (row l i) (h.row_lt i)) ?_
        have hE := elems_length_le m (row l i)
        rw [ints_length]
        refine Ev.up (fun q k => impl_IsOrder.l1 k ((row l i : Nat) : Int) l (l.length : Int) (i : Int) (ints (elems m (row l i))) ((elems m (row l i)).length : Int) (q : Int) (m : Int) l) j ?_ ?_
        · intro q hq hn
          refine Ev.step (fun _ => rfl) ?_
          have hmem : (elems m (row l i)).getD q 0 ∈ elems m (row l i) := by simp [show q < (elems m (row l i)).length by omega]
          have hlt := (mem_elems.1 hmem).1
          have e0 : rd (ints (elems m (row l i))) (q : Int) = (((elems m (row l i)).getD q 0 : Nat) : Int) := by rw [rd_nat, ints_getD _ _ (by omega)]
          have hd : diff (row l ((elems m (row l i)).getD q 0)) (row l i) = 0 := beq_iff_eq.1 (hless q hq)
          simp only [impl_IsOrder.l1, if_pos (show (q : Int) < ((elems m (row l i)).length : Int) by omega), if_pos (show (0 : Int) ≤ (q : Int) by omega), ints_length, e0, if_pos (show (0 : Int) ≤ (((elems m (row l i)).getD q 0 : Nat) : Int) by omega), if_pos (show (((elems m (row l i)).getD q 0 : Nat) : Int) < (l.length : Int) by omega), h.rd, andNot_i64 _ _ (h.row_62 _) (h.row_62 _), hd, Int.natCast_zero, if_true, next64 q _ (show q < (elems m (row l i)).length by omega) (by omega)]
          exact hn
        · refine Ev.step (fun _ => rfl) ?_
          have hmem : (elems m (row l i)).getD j 0 ∈ elems m (row l i) := by simp [hj]
          have hlt := (mem_elems.1 hmem).1
          have e0 : rd (ints (elems m (row l i))) (j : Int) = (((elems m (row l i)).getD j 0 : Nat) : Int) := by rw [rd_nat, ints_getD _ _ (by omega)]
          have hd : ¬ ((diff (row l ((elems m (row l i)).getD j 0)) (row l i) : Nat) : Int) = 0 := by
            have := beq_eq_false_iff_ne.1 hbad
            omega
          simp only [impl_IsOrder.l1, if_pos (show (j : Int) < ((elems m (row l i)).length : Int) by omega), if_pos (show (0 : Int) ≤ (j : Int) by omega), ints_length, e0, if_pos (show (0 : Int) ≤ (((elems m (row l i)).getD j 0 : Nat) : Int) by omega), if_pos (show (((elems m (row l i)).getD j 0 : Nat) : Int) < (l.length : Int) by omega), h.rd, andNot_i64 _ _ (h.row_62 _) (h.row_62 _), if_neg hd]
          exact Ev.now _
    · refine Ev.step (fun _ => rfl) ?_
      simp only [impl_IsOrder.l0, if_neg (show ¬ (l.length : Int) < (l.length : Int) by omega)]
      exact Ev.now _
end Go.Proofs.YtimjblnglhmakaaDoor.M
namespace Go.Proofs.YtimjblnglhmakaaDoor.M
open Go.RowKit Go.Proofs.YtimjblnglhmakaaDoorW.PrintMore Go.Proofs.YtimjblnglhmakaaDoorW.PrintLast Go.Proofs.YtimjblnglhmakaaDoorW.PrintWords Go.Proofs.YtimjblnglhmakaaDoor.P
theorem orGood_ev (n : Int) (l : List Int) (hl : l.length ≤ 140737488355328) : Ev (fun k => spec_orGood.f k n l) (isOrd n l) := by
  unfold spec_orGood.f isOrd
  refine Ev.bind (orRelation_ev n l hl) ?_
  cases hr : isRel n l with
  | false => simp only [Bool.false_eq_true, if_false, Bool.false_and]; exact Ev.now _
  | true =>
    obtain ⟨m, rfl, h⟩ := isRel_iff.1 hr
    have hlen := h.len
    have h10 := h.le
    simp only [if_true, Bool.true_and]
    refine Ev.all (fun i k => spec_orGood.l0 k l (l.length : Int) (i : Int) (m : Int) l) l.length _ ?_ ?_ ?_
    · intro i r hi hp hrest
      rw [Bool.and_eq_true] at hp
      have hB : B l i i = false := by simpa using hp.1
      refine Ev.step (fun _ => rfl) ?_
      simp only [spec_orGood.l0, if_pos (show (i : Int) < (l.length : Int) by omega), if_pos (show (0 : Int) ≤ (i : Int) by omega), h.rd, orHas_eq (row l i) i (by omega), show (row l i).testBit i = B l i i from rfl, Option.bind_some, hB, Bool.false_eq_true, if_false]
      refine Ev.bind (orList_ev m (by omega) (row l i) (h.row_lt i)) ?_
      have hE := elems_length_le m (row l i)
      rw [ints_length]
      refine Ev.up (fun q k => spec_orGood.l1 k ((row l i : Nat) : Int) l (l.length : Int) (i : Int) (ints (elems m (row l i))) ((elems m (row l i)).length : Int) (q : Int) (m : Int) l) (elems m (row l i)).length ?_ ?_
      · intro q hq hn
        refine Ev.step (fun _ => rfl) ?_
        have hmem : (elems m (row l i)).getD q 0 ∈ elems m (row l i) := by simp [hq]
        have hlt := (mem_elems.1 hmem).1
        have e0 : rd (ints (elems m (row l i))) (q : Int) = (((elems m (row l i)).getD q 0 : Nat) : Int) := by rw [rd_nat, ints_getD _ _ hq]
        have hd : diff (row l ((elems m (row l i)).getD q 0)) (row l i) = 0 := by
          have hc := hp.2
          unfold closedAt at hc
          rw [allB_iff, hlen] at hc
          exact beq_iff_eq.1 (hc q hq)
        simp only [spec_orGood.l1, if_pos (show (q : Int) < ((elems m (row l i)).length : Int) by omega), if_pos (show (0 : Int) ≤ (q : Int) by omega), ints_length, e0, if_pos (show (0 : Int) ≤ (((elems m (row l i)).getD q 0 : Nat) : Int) by omega), if_pos (show (((elems m (row l i)).getD q 0 : Nat) : Int) < (l.length : Int) by omega), h.rd, andNot_i64 _ _ (h.row_62 _) (h.row_62 _), hd, Int.natCast_zero, if_true, next64 q _ hq (by omega)]
        exact hn
      · refine Ev.step (fun _ => rfl) ?_
        simp only [spec_orGood.l1, if_neg (show ¬ ((elems m (row l i)).length : Int) < ((elems m (row l i)).length : Int) by omega), next64 i l.length hi (by omega)]
        exact hrest
    · intro i hi hp
      refine Ev.step (fun _ => rfl) ?_
      simp only [spec_orGood.l0, if_pos (show (i : Int) < (l.length : Int) by omega), if_pos (show (0 : Int) ≤ (i : Int) by omega), h.rd, orHas_eq (row l i) i (by omega), show (row l i).testBit i = B l i i from rfl, Option.bind_some]
      cases hB : B l i i with
      | true => simp only [if_true]; exact Ev.now _
      | false =>
        rw [hB] at hp
        have hc : closedAt l.length l i = false := by simpa using hp
        unfold closedAt at hc
        rw [hlen] at hc
        obtain ⟨j, hj, hbad, hless⟩ := least_false (allB_false.1 hc)
        simp only [Bool.false_eq_true, if_false]
        refine Ev.bind (orList_ev m (by omega) (row l i) (h.row_lt i)) ?_
        have hE := elems_length_le m (row l i)
        rw [ints_length]
        refine Ev.up (fun q k => spec_orGood.l1 k ((row l i : Nat) : Int) l (l.length : Int) (i : Int) (ints (elems m (row l i))) ((elems m (row l i)).length : Int) (q : Int) (m : Int) l) j ?_ ?_
        · intro q hq hn
          refine Ev.step (fun _ => rfl) ?_
          have hmem : (elems m (row l i)).getD q 0 ∈ elems m (row l i) := by simp [show q < (elems m (row l i)).length by omega]
          have hlt := (mem_elems.1 hmem).1
          have e0 : rd (ints (elems m (row l i))) (q : Int) = (((elems m (row l i)).getD q 0 : Nat) : Int) := by rw [rd_nat, ints_getD _ _ (by omega)]
          have hd : diff (row l ((elems m (row l i)).getD q 0)) (row l i) = 0 := beq_iff_eq.1 (hless q hq)
          simp only [spec_orGood.l1, if_pos (show (q : Int) < ((elems m (row l i)).length : Int) by omega), if_pos (show (0 : Int) ≤ (q : Int) by omega), ints_length, e0, if_pos (show (0 : Int) ≤ (((elems m (row l i)).getD q 0 : Nat) : Int) by omega), if_pos (show (((elems m (row l i)).getD q 0 : Nat) : Int) < (l.length : Int) by omega), h.rd, andNot_i64 _ _ (h.row_62 _) (h.row_62 _), hd, Int.natCast_zero, if_true, next64 q _ (show q < (elems m (row l i)).length by omega) (by omega)]
          exact hn
        · refine Ev.step (fun _ => rfl) ?_
          have hmem : (elems m (row l i)).getD j 0 ∈ elems m (row l i) := by simp [hj]
          have hlt := (mem_elems.1 hmem).1
          have e0 : rd (ints (elems m (row l i))) (j : Int) = (((elems m (row l i)).getD j 0 : Nat) : Int) := by rw [rd_nat, ints_getD _ _ (by omega)]
          have hd : ¬ ((diff (row l ((elems m (row l i)).getD j 0)) (row l i) : Nat) : Int) = 0 := by
            have := beq_eq_false_iff_ne.1 hbad
            omega
          simp only [spec_orGood.l1, if_pos (show (j : Int) < ((elems m (row l i)).length : Int) by omega), if_pos (show (0 : Int) ≤ (j : Int) by omega), ints_length, e0, if_pos (show (0 : Int) ≤ (((elems m (row l i)).getD j 0 : Nat) : Int) by omega), if_pos (show (((elems m (row l i)).getD j 0 : Nat) : Int) < (l.length : Int) by omega), h.rd, andNot_i64 _ _ (h.row_62 _) (h.row_62 _), if_neg hd]
          exact Ev.now _
    · refine Ev.step (fun _ => rfl) ?_
      simp only [spec_orGood.l0, if_neg (show ¬ (l.length : Int) < (l.length : Int) by omega)]
      exact Ev.now _
theorem setOf_bit_or (q : Nat → Bool) (j : Nat) : setOf (j + 1) q = if q j then setOf j q ||| 2 ^ j else setOf j q := by
  show setOf j q ||| (if q j then 2 ^ j else 0) = _
  cases q j <;> simp
def part (n : Nat) (p : Nat → Nat → Bool) (i j : Nat) : List Int := (List.range n).map fun a => ((setOf (if a < i then n else if a = i then j else 0) (p a) : Nat) : Int)
theorem part_length (n : Nat) (p : Nat → Nat → Bool) (i j : Nat) : (part n p i j).length = n := by simp [part]
theorem part_getD (n : Nat) (p : Nat → Nat → Bool) (i j a : Nat) (h : a < n) : (part n p i j).getD a 0 = ((setOf (if a < i then n else if a = i then j else 0) (p a) : Nat) : Int) := by simp [part, h]
theorem part_next (n : Nat) (p : Nat → Nat → Bool) (i : Nat) : part n p i n = part n p (i + 1) 0 := by
  unfold part
  apply List.map_congr_left
  intro a _
  by_cases h1 : a < i
  · rw [if_pos h1, if_pos (by omega)]
  · rw [if_neg h1]
    by_cases h2 : a = i
    · rw [if_pos h2, if_pos (by omega)]
    · rw [if_neg h2, if_neg (by omega)]
      by_cases h3 : a = i + 1
      · rw [if_pos h3]
      · rw [if_neg h3]
theorem part_no (n : Nat) (p : Nat → Nat → Bool) (i j : Nat) (hi : i < n) (h : p i j = false) : part n p i j = part n p i (j + 1) := by
  unfold part
  apply List.map_congr_left
  intro a _
  by_cases h2 : a = i
  · subst h2
    rw [if_neg (Nat.lt_irrefl _), if_pos rfl, if_neg (Nat.lt_irrefl _), if_pos rfl, setOf_bit_or, h]
    rfl
  · rw [if_neg h2, if_neg h2]
theorem part_yes (n : Nat) (p : Nat → Nat → Bool) (i j : Nat) (hi : i < n) (h : p i j = true) : (part n p i j).set i ((setOf j (p i) ||| 2 ^ j : Nat) : Int) = part n p i (j + 1) := by
  apply list_ext_getD (by simp [part_length])
  intro a ha
  have ha : a < n := by simpa [part_length] using ha
  rw [part_getD n p i (j + 1) a ha]
  by_cases h2 : a = i
  · subst h2
    rw [if_neg (Nat.lt_irrefl _), if_pos rfl, setOf_bit_or, h]
    rw [List.getD_eq_getElem?_getD, List.getElem?_set_self (by rw [part_length]; exact hi)]
    rfl
  · have e : ((part n p i j).set i ((setOf j (p i) ||| 2 ^ j : Nat) : Int)).getD a 0 = (part n p i j).getD a 0 := by
      simp [List.getD, Ne.symm h2]
    rw [e, part_getD n p i j a ha, if_neg h2, if_neg h2]
theorem part_zero (n : Nat) (p : Nat → Nat → Bool) : part n p 0 0 = List.replicate n 0 := by
  apply list_ext_getD (by simp [part_length])
  intro a ha
  have ha : a < n := by simpa [part_length] using ha
  rw [part_getD n p 0 0 a ha, if_neg (Nat.not_lt_zero _)]
  have : (if a = 0 then 0 else 0) = 0 := by split <;> rfl
  rw [this]
  simp [setOf, ha]
theorem part_all (n : Nat) (p : Nat → Nat → Bool) : part n p n 0 = relL n p := by
  unfold part relL
  apply List.map_congr_left
  intro a ha
  rw [List.mem_range] at ha
  rw [if_pos ha]
theorem relation_ev (n : Nat) (hn : n ≤ 62) (g : Nat → Int → Int → Option Bool) (p : Nat → Nat → Bool) (hg : ∀ i j, i < n → j < n → Ev (fun k => g k (i : Int) (j : Int)) (p i j)) :
    Ev (fun k => impl_relation.f k (n : Int) (g k)) ((n : Int), relL n p) := by
  -- the tests all come to their answers from one number of rounds on
  obtain ⟨K, hK⟩ : ∃ K, ∀ k, K ≤ k → ∀ i j, i < n → j < n → g k (i : Int) (j : Int) = some (p i j) := by
    have one : ∀ m, ∃ K, ∀ k, K ≤ k → ∀ i j, i < n → j < n → i * n + j < m → g k (i : Int) (j : Int) = some (p i j) := by
      intro m
      induction m with
      | zero => exact ⟨0, fun k _ i j _ _ h => absurd h (Nat.not_lt_zero _)⟩
      | succ m ih =>
        obtain ⟨K, hK⟩ := ih
        by_cases hx : ∃ i j, i < n ∧ j < n ∧ i * n + j = m
        · obtain ⟨i, j, hi, hj, hm⟩ := hx
          obtain ⟨K', hK'⟩ := hg i j hi hj
          refine ⟨max K K', fun k hk i' j' hi' hj' h => ?_⟩
          by_cases he : i' * n + j' = m
          · have e1 : i' = i := by
              have a1 : (i' * n + j') / n = i' := by rw [Nat.mul_comm, Nat.mul_add_div (by omega), Nat.div_eq_of_lt hj', Nat.add_zero]
              have a2 : (i * n + j) / n = i := by rw [Nat.mul_comm, Nat.mul_add_div (by omega), Nat.div_eq_of_lt hj, Nat.add_zero]
              rw [← a1, ← a2, he, hm]
            subst e1
            have e2 : j' = j := by omega
            subst e2
            exact hK' k (by omega)
          · exact hK k (by omega) i' j' hi' hj' (by omega)
        · exact ⟨K, fun k hk i j hi hj h => hK k hk i j hi hj (by
            rcases Nat.lt_or_ge (i * n + j) m with h1 | h1
            · exact h1
            · exact absurd ⟨i, j, hi, hj, by omega⟩ hx)⟩
    obtain ⟨K, h⟩ := one (n * n + n)
    refine ⟨K, fun k hk i j hi hj => h k hk i j hi hj ?_⟩
    have : i * n ≤ n * n := Nat.mul_le_mul_right n (by omega)
    omega
  -- with the tests as' at one number
  have main : ∀ is : Int → Int → Option Bool, (∀ i j, i < n → j < n → is (i : Int) (j : Int) = some (p i j)) → Ev (fun k => impl_relation.f k (n : Int) is) ((n : Int), relL n p) := by
    intro is his
    unfold impl_relation.f
    simp only [if_pos (show (0 : Int) ≤ (n : Int) by omega), Int.toNat_natCast, if_pos (show n ≤ 35184372088832 by omega)]
    rw [← part_zero n p]
    refine Ev.up (fun i k => impl_relation.l0 is k (n : Int) (n : Int) (i : Int) (n : Int) (part n p i 0)) n ?_ ?_
    · intro i hi h
      refine Ev.step (fun _ => rfl) ?_
      simp only [impl_relation.l0, if_pos (show (i : Int) < (n : Int) by omega)]
      refine Ev.up (fun j k => impl_relation.l1 is k (n : Int) (i : Int) (n : Int) (i : Int) (n : Int) (j : Int) (n : Int) (part n p i j)) n ?_ ?_
      · intro j hj h
        refine Ev.step (fun _ => rfl) ?_
        simp only [impl_relation.l1, if_pos (show (j : Int) < (n : Int) by omega), his i j hi hj, Option.bind_some, next64 j n hj (by omega)]
        cases hp : p i j with
        | false =>
          simp only [Bool.false_eq_true, if_false]
          rw [part_no n p i j hi hp]
          exact h
        | true =>
          have hs : setOf j (p i) < 9223372036854775808 := setOf_62 _ _ (by omega)
          have h2 : (2 : Nat) ^ j < 9223372036854775808 := Nat.lt_of_le_of_lt (Nat.pow_le_pow_right (by decide) (by omega : j ≤ 62)) (by decide)
          have e1 : rd (part n p i j) (i : Int) = ((setOf j (p i) : Nat) : Int) := by
            rw [rd_nat, part_getD n p i j i hi, if_neg (Nat.lt_irrefl _), if_pos rfl]
          simp only [if_true, if_pos (show (0 : Int) ≤ (i : Int) by omega), part_length, if_pos (show (i : Int) < (n : Int) by omega), if_pos (show (0 : Int) ≤ (j : Int) by omega), e1, shl1 j (by omega), or_i64 _ _ hs h2, Int.toNat_natCast]
          rw [part_yes n p i j hi hp]
          exact h
      · refine Ev.step (fun _ => rfl) ?_
        simp only [impl_relation.l1, if_neg (show ¬ (n : Int) < (n : Int) by omega), next64 i n hi (by omega)]
        rw [part_next]
        exact h
    · refine Ev.step (fun _ => rfl) ?_
      simp only [impl_relation.l0, if_neg (show ¬ (n : Int) < (n : Int) by omega)]
      rw [part_all]
      exact Ev.now _
  -- the least test that answers so
  have h0 := main (fun x y => if 0 ≤ x ∧ x < n ∧ 0 ≤ y ∧ y < n then some (p x.toNat y.toNat) else none) (fun i j hi hj => by
    show (if _ then _ else _) = _
    rw [if_pos ⟨by omega, by omega, by omega, by omega⟩, Int.toNat_natCast, Int.toNat_natCast])
  obtain ⟨K', hK'⟩ := h0
  refine ⟨max K K' + 1, fun k hk => ?_⟩
  obtain ⟨d, rfl⟩ : ∃ d, k = d + 1 := ⟨k - 1, by omega⟩
  refine impl_relation.mono2 (is := fun x y => if 0 ≤ x ∧ x < n ∧ 0 ≤ y ∧ y < n then some (p x.toNat y.toNat) else none) (is' := g (d + 1)) (fun x y r hr => ?_) (n : Int) d _ (hK' d (by omega))
  by_cases hxy : 0 ≤ x ∧ x < n ∧ 0 ≤ y ∧ y < n
  · rw [if_pos hxy] at hr
    obtain ⟨i, rfl⟩ := Int.eq_ofNat_of_zero_le hxy.1
    obtain ⟨j, rfl⟩ := Int.eq_ofNat_of_zero_le hxy.2.2.1
    rw [Int.toNat_natCast, Int.toNat_natCast] at hr
    rw [hK (d + 1) (by omega) i j (by omega) (by omega)]
    exact hr
  · rw [if_neg hxy] at hr
    cases hr
end Go.Proofs.YtimjblnglhmakaaDoor.M
namespace Go.Proofs.YtimjblnglhmakaaDoor.M
open Go.RowKit Go.Proofs.YtimjblnglhmakaaDoorW.PrintMore Go.Proofs.YtimjblnglhmakaaDoorW.PrintLast Go.Proofs.YtimjblnglhmakaaDoorW.PrintWords Go.Proofs.YtimjblnglhmakaaDoor.P
def By (l : List Int) : Prop := ∀ x ∈ l, 0 ≤ x ∧ x ≤ 255
theorem By.rd {l : List Int} (h : By l) (i : Nat) : 0 ≤ rd l (i : Int) ∧ rd l (i : Int) ≤ 255 := by
  rw [rd_nat]
  by_cases hi : i < l.length
  · have := h l[i] (List.getElem_mem hi)
    simpa [hi] using this
  · simp [Nat.not_lt.1 hi]
theorem wrap64_in (x : Int) (h0 : -9223372036854775808 ≤ x) (h1 : x ≤ 9223372036854775807) : wrap64 x = x := by unfold wrap64; omega
end Go.Proofs.YtimjblnglhmakaaDoor.M
namespace Go.Proofs.YtimjblnglhmakaaDoor.M
open Go.RowKit Go.Proofs.YtimjblnglhmakaaDoorW.PrintMore Go.Proofs.YtimjblnglhmakaaDoorW.PrintLast Go.Proofs.YtimjblnglhmakaaDoorW.PrintWords Go.Proofs.YtimjblnglhmakaaDoor.P
def mir (n : Nat) (l : List Int) : List Int := relL n fun i j => B l j i
theorem mir_rel {n : Nat} {l : List Int} (h : Rel n l) : Rel n (mir n l) := relL_rel n h.le _
theorem mir_B {n : Nat} {l : List Int} (h : Rel n l) (i j : Nat) : B (mir n l) i j = B l j i := by
  unfold mir
  rw [relL_B]
  cases hb : B l j i with
  | false => simp
  | true => simp [h.B_lt hb, h.B_lt' hb]
theorem mirror_ev {n : Nat} {l : List Int} (h : Rel n l) : Ev (fun k => impl_Order_mirror.f k (n : Int) l) ((n : Int), mir n l) := by
  have hn := h.le
  unfold impl_Order_mirror.f
  refine Ev.bind (relation_ev n (by omega) (fun _ x y => impl_Order_mirror_1.f x y (n : Int) l) (fun i j => B l j i) ?_) (Ev.now _)
  intro i j hi hj
  refine Ev.const ?_
  unfold impl_Order_mirror_1.f
  rw [better_eq h n j i hj (by omega)]
  rfl
theorem orBelow_ev {n : Nat} {l : List Int} (h : Rel n l) (z : Int) (i : Nat) (hi : i ≤ 62) : Ev (fun k => spec_orBelow.f k z l (i : Int)) ((setOf n fun j => B l j i : Nat) : Int) := by
  have hlen := h.len
  have hn := h.le
  unfold spec_orBelow.f
  rw [hlen]
  refine Ev.up (fun j k => spec_orBelow.l0 k (i : Int) ((setOf j fun j => B l j i : Nat) : Int) l (n : Int) (j : Int)) n ?_ ?_
  · intro j hj next
    refine Ev.step (fun _ => rfl) ?_
    rw [setOf_bit_or] at next
    simp only [spec_orBelow.l0, if_pos (show (j : Int) < (n : Int) by omega), if_pos (show (0 : Int) ≤ (j : Int) by omega), hlen, h.rd, orHas_eq _ i (by omega), Option.bind_some, next64 j n hj (by omega)]
    rw [show (row l j).testBit i = B l j i from rfl]
    cases hb : B l j i with
    | false =>
      rw [hb] at next
      simpa using next
    | true =>
      rw [hb] at next
      have h2 : (2 : Nat) ^ j < 9223372036854775808 := Nat.lt_of_le_of_lt (Nat.pow_le_pow_right (by decide) (by omega : j ≤ 62)) (by decide)
      simp only [if_true]
      rw [shl1 j (by omega), or_i64 (setOf j fun j => B l j i) (2 ^ j) (setOf_62 _ _ (by omega)) h2]
      simpa using next
  · refine Ev.step (fun _ => rfl) ?_
    simp only [spec_orBelow.l0, if_neg (show ¬ (n : Int) < (n : Int) by omega)]
    exact Ev.now _
def indif (n : Nat) (l : List Int) (i : Nat) : Nat := setOf n fun j => !B l i j && (!B l j i && decide (j ≠ i))
theorem all_eq (n : Nat) (l : List Int) (hn : n ≤ 10) : impl_Order_all.f (n : Int) l = some ((2 ^ n - 1 : Nat) : Int) := by
  unfold impl_Order_all.f
  rw [if_pos (by omega), pow_of n (by omega) (by omega), Int.toNat_natCast]
  have := Nat.two_pow_pos n
  congr 1
  omega
theorem indifs_ev {n : Nat} {l : List Int} (h : Rel n l) : Ev (fun k => impl_Order_indifferent.f k (n : Int) l) ((List.range n).map fun i => ((indif n l i : Nat) : Int)) := by
  have hlen := h.len
  have hn := h.le
  have hm := mir_rel h
  unfold impl_Order_indifferent.f
  refine Ev.bind (mirror_ev h) ?_
  refine Ev.up (fun i k => impl_Order_indifferent.l0 k ((List.range i).map fun i => ((indif n l i : Nat) : Int)) (n : Int) (i : Int) (n : Int) l (n : Int) (mir n l)) n ?_ ?_
  · intro i hi next
    refine Ev.step (fun _ => rfl) ?_
    have hp : (2 : Nat) ^ n - 1 < 9223372036854775808 := by
      have : (2 : Nat) ^ n ≤ 2 ^ 10 := Nat.pow_le_pow_right (by decide) hn
      omega
    have h2 : (2 : Nat) ^ i < 9223372036854775808 := Nat.lt_of_le_of_lt (Nat.pow_le_pow_right (by decide) (by omega : i ≤ 62)) (by decide)
    have le1 : ∀ a b, diff a b ≤ a := fun a b => Nat.and_le_left
    have e : diff (diff (diff (2 ^ n - 1) (row l i)) (row (mir n l) i)) (2 ^ i) = indif n l i := by
      apply Nat.eq_of_testBit_eq
      intro j
      unfold indif
      rw [testBit_setOf, testBit_diff, testBit_diff, testBit_diff, Nat.testBit_two_pow_sub_one, Nat.testBit_two_pow, show (row l i).testBit j = B l i j from rfl, show (row (mir n l) i).testBit j = B (mir n l) i j from rfl, mir_B h, Bool.and_assoc, Bool.and_assoc]
      by_cases hj : i = j
      · simp [hj]
      · simp [hj, Ne.symm hj]
    have g1 := le1 (2 ^ n - 1) (row l i)
    have g2 := le1 (diff (2 ^ n - 1) (row l i)) (row (mir n l) i)
    simp only [impl_Order_indifferent.l0, if_pos (show (i : Int) < (n : Int) by omega), all_eq n l hn, Option.bind_some, if_pos (show (0 : Int) ≤ (i : Int) by omega), hlen, hm.len, List.length_map, List.length_range, if_pos (show i < 17592186044416 by omega), h.rd, hm.rd, shl1 i (by omega), andNot_i64 _ _ hp (h.row_62 i), andNot_i64 _ _ (show diff (2 ^ n - 1) (row l i) < 9223372036854775808 by omega) (hm.row_62 i),
      andNot_i64 _ _ (show diff (diff (2 ^ n - 1) (row l i)) (row (mir n l) i) < 9223372036854775808 by omega) h2, e, next64 i n hi (by omega)]
    simpa [List.range_succ] using next
  · refine Ev.step (fun _ => rfl) ?_
    simp only [impl_Order_indifferent.l0, if_neg (show ¬ (n : Int) < (n : Int) by omega)]
    exact Ev.now _
end Go.Proofs.YtimjblnglhmakaaDoor.M
namespace Go.Proofs.YtimjblnglhmakaaDoor.M
open Go.RowKit Go.Proofs.YtimjblnglhmakaaDoorW.PrintMore Go.Proofs.YtimjblnglhmakaaDoorW.PrintLast Go.Proofs.YtimjblnglhmakaaDoorW.PrintWords Go.Proofs.YtimjblnglhmakaaDoor.P
theorem toIntS_ev (l : List Int) (hl : l.length ≤ 1048576) : Ev (fun k => laws_toIntS.f k l) l := by
  unfold laws_toIntS.f
  simp only [if_pos (show (0 : Int) ≤ (l.length : Int) by omega), Int.toNat_natCast, if_pos (show l.length ≤ 35184372088832 by omega)]
  have hz : List.replicate l.length (0 : Int) = l.take 0 ++ List.replicate (l.length - 0) 0 := by simp
  rw [hz]
  refine Ev.to (Ev.up (r := l.take l.length ++ List.replicate (l.length - l.length) 0) (fun i k => laws_toIntS.l0 k l (l.take i ++ List.replicate (l.length - i) 0) (i : Int)) l.length ?_ ?_) (by simp)
  · intro i hi next
    refine Ev.step (fun _ => rfl) ?_
    have e : (l.take i ++ List.replicate (l.length - i) (0 : Int)).set i (rd l (i : Int)) = l.take (i + 1) ++ List.replicate (l.length - (i + 1)) 0 := by
      have e1 : l.take (i + 1) = l.take i ++ [l[i]] := by rw [List.take_add_one]; simp [hi]
      rw [List.set_append_right _ _ (by rw [List.length_take]; omega), List.length_take, Nat.min_eq_left (Nat.le_of_lt hi), Nat.sub_self, show l.length - i = (l.length - (i + 1)) + 1 by omega, List.replicate_succ, List.set_cons_zero, e1, List.append_assoc, rd_get l i hi]
      rfl
    simp only [laws_toIntS.l0, if_pos (show (i : Int) < (l.length : Int) by omega), if_pos (show (0 : Int) ≤ (i : Int) by omega), List.length_append, List.length_take, List.length_replicate, if_pos (show (i : Int) < ((min i l.length + (l.length - i) : Nat) : Int) by omega), Int.toNat_natCast, e, next64 i l.length hi (by omega)]
    exact next
  · refine Ev.step (fun _ => rfl) ?_
    simp only [laws_toIntS.l0, if_neg (show ¬ (l.length : Int) < (l.length : Int) by omega)]
    exact Ev.now _
theorem toOrder_ev (n : Int) (l : List Int) (hl : l.length ≤ 1048576) : Ev (fun k => laws_toOrder.f k n l) (n, l) := by
  unfold laws_toOrder.f
  exact Ev.bind (toIntS_ev l hl) (Ev.now _)
theorem eqIntS_ev (l l' : List Int) (hl : l.length ≤ 1048576) : Ev (fun k => laws_eqIntS.f k l l') (decide (l = l')) := by
  unfold laws_eqIntS.f
  by_cases h : (l.length : Int) = (l'.length : Int)
  · simp only [if_pos h]
    refine Ev.to (Ev.all (fun i k => laws_eqIntS.l0 k l l' (i : Int)) l.length (fun i => decide (l.getD i 0 = l'.getD i 0)) ?_ ?_ ?_) ?_
    · intro i r hi hp next
      refine Ev.step (fun _ => rfl) ?_
      simp only [laws_eqIntS.l0, if_pos (show (i : Int) < (l.length : Int) by omega), if_pos (show (0 : Int) ≤ (i : Int) by omega), if_pos (show (i : Int) < (l'.length : Int) by omega), rd_nat, if_pos (of_decide_eq_true hp), next64 i l.length hi (by omega)]
      exact next
    · intro i hi hp
      refine Ev.step (fun _ => rfl) ?_
      simp only [laws_eqIntS.l0, if_pos (show (i : Int) < (l.length : Int) by omega), if_pos (show (0 : Int) ≤ (i : Int) by omega), if_pos (show (i : Int) < (l'.length : Int) by omega), rd_nat, if_neg (of_decide_eq_false hp)]
      exact Ev.now _
    · refine Ev.step (fun _ => rfl) ?_
      simp only [laws_eqIntS.l0, if_neg (show ¬ (l.length : Int) < (l.length : Int) by omega)]
      exact Ev.now _
    · rw [Bool.eq_iff_iff, allB_iff, decide_eq_true_iff]
      constructor
      · intro H
        exact list_ext_getD (by omega) fun i hi => of_decide_eq_true (H i hi)
      · rintro rfl i _
        simp
  · simp only [if_neg h]
    refine Ev.to (Ev.now _) ?_
    symm
    rw [decide_eq_false_iff_not]
    rintro rfl
    exact h rfl
theorem eqOrder_ev (n m : Int) (l l' : List Int) (hl : l.length ≤ 1048576) : Ev (fun k => laws_eqOrder.f k n l m l') (decide (n = m ∧ l = l')) := by
  unfold laws_eqOrder.f
  by_cases h : n = m
  · simp only [if_pos h]
    refine Ev.bind (eqIntS_ev l l' hl) ?_
    by_cases h2 : l = l'
    · simp only [decide_eq_true h2, if_true]
      exact Ev.to (Ev.now _) (by simp [h, h2])
    · simp only [decide_eq_false h2, Bool.false_eq_true, if_false]
      exact Ev.to (Ev.now _) (by simp [h2])
  · simp only [if_neg h]
    exact Ev.to (Ev.now _) (by simp [h])
theorem eqOrder_same (n : Int) (l : List Int) (hl : l.length ≤ 1048576) : Ev (fun k => laws_eqOrder.f k n l n l) true := Ev.to (eqOrder_ev n n l l hl) (by simp)
def marks (a n : Nat) : List Int := (List.range n).map fun i => ((a + i : Nat) : Int)
theorem marks_length (a n : Nat) : (marks a n).length = n := by simp [marks]
theorem marks_getD (a n i : Nat) (h : i < n) : (marks a n).getD i 0 = ((a + i : Nat) : Int) := by simp [marks, h]
theorem marks_succ (a n : Nat) : marks a (n + 1) = marks a n ++ [((a + n : Nat) : Int)] := by simp [marks, List.range_succ]
theorem markIntS_ev (l : List Int) (a : Nat) (ha : a ≤ 4194304) (hl : l.length ≤ 1048576) : Ev (fun k => laws_markIntS.f k l (a : Int)) (((a + l.length : Nat) : Int), marks a l.length) := by
  unfold laws_markIntS.f
  refine (Ev.to (r := (((a + l.length : Nat) : Int), marks a l.length ++ l.drop l.length)) ?_ (by rw [List.drop_length, List.append_nil]))
  have e0 : l = marks a 0 ++ l.drop 0 := by simp [marks]
  have h0 : Ev (fun k => laws_markIntS.l0 k (marks a 0 ++ l.drop 0) ((a + 0 : Nat) : Int) ((0 : Nat) : Int)) (((a + l.length : Nat) : Int), marks a l.length ++ l.drop l.length) := by
    refine Ev.up (fun i k => laws_markIntS.l0 k (marks a i ++ l.drop i) ((a + i : Nat) : Int) (i : Int)) l.length ?_ ?_
    · intro i hi next
      refine Ev.step (fun _ => rfl) ?_
      have e : (marks a i ++ l.drop i).set i ((a + i : Nat) : Int) = marks a (i + 1) ++ l.drop (i + 1) := by
        rw [List.set_append_right _ _ (by rw [marks_length]; omega), marks_length, Nat.sub_self, List.drop_eq_getElem_cons hi, List.set_cons_zero, marks_succ, List.append_assoc]
        rfl
      have ew : wrap64 (((a + i : Nat) : Int) + 1) = ((a + (i + 1) : Nat) : Int) := by rw [wrap64_in _ (by omega) (by omega)]; omega
      simp only [laws_markIntS.l0, List.length_append, marks_length, List.length_drop, if_pos (show (i : Int) < ((i + (l.length - i) : Nat) : Int) by omega), if_pos (show (0 : Int) ≤ (i : Int) by omega), Int.toNat_natCast, e, ew, next64 i l.length hi (by omega)]
      exact next
    · refine Ev.step (fun _ => rfl) ?_
      simp only [laws_markIntS.l0, List.length_append, marks_length, List.length_drop, if_neg (show ¬ (l.length : Int) < ((l.length + (l.length - l.length) : Nat) : Int) by omega)]
      exact Ev.now _
  rw [← e0] at h0
  exact h0
theorem markOrder_ev (n : Int) (l : List Int) (a : Nat) (ha : a ≤ 4194304) (hl : l.length ≤ 1048576) : Ev (fun k => laws_markOrder.f k n l (a : Int)) (((a + l.length : Nat) : Int), marks a l.length) := by
  unfold laws_markOrder.f
  exact Ev.bind (markIntS_ev l a ha hl) (Ev.now _)
theorem heldIntS_ev (m a : Nat) (ha : a ≤ 4194304) (hm : m ≤ 1048576) : Ev (fun k => laws_heldIntS.f k (marks a m) (a : Int)) ((a + m : Nat) : Int) := by
  unfold laws_heldIntS.f
  have h0 : Ev (fun k => laws_heldIntS.l0 k (marks a m) ((a + 0 : Nat) : Int) ((0 : Nat) : Int)) ((a + m : Nat) : Int) := by
    refine Ev.up (fun i k => laws_heldIntS.l0 k (marks a m) ((a + i : Nat) : Int) (i : Int)) m ?_ ?_
    · intro i hi next
      refine Ev.step (fun _ => rfl) ?_
      have ew : wrap64 (((a + i : Nat) : Int) + 1) = ((a + (i + 1) : Nat) : Int) := by rw [wrap64_in _ (by omega) (by omega)]; omega
      simp only [laws_heldIntS.l0, marks_length, if_pos (show (i : Int) < (m : Int) by omega), if_pos (show (0 : Int) ≤ (i : Int) by omega), rd_nat, marks_getD a m i hi, if_true, ew, next64 i m hi (by omega)]
      exact next
    · refine Ev.step (fun _ => rfl) ?_
      simp only [laws_heldIntS.l0, marks_length, if_neg (show ¬ (m : Int) < (m : Int) by omega)]
      exact Ev.now _
  exact h0
theorem szOrder_eq (n : Int) (l : List Int) (a : Int) (ha : 0 ≤ a) (ha2 : a ≤ 1048576) (hl : l.length ≤ maxLen) : laws_szOrder.f n l a = some (if a < (l.length : Int) then -1 else a - (l.length : Int)) := by
  have hl : l.length ≤ 9223372036854775807 := hl
  unfold laws_szOrder.f laws_szIntS.f
  rw [wrap64_in _ (by omega) (by omega)]
  by_cases h : a < (l.length : Int)
  · rw [if_pos (show a - (l.length : Int) < 0 by omega), if_pos h, Option.bind_some, if_pos (by omega)]
  · rw [if_neg (show ¬ a - (l.length : Int) < 0 by omega), if_neg h, Option.bind_some, if_neg (by omega)]
end Go.Proofs.YtimjblnglhmakaaDoor.M
namespace Go.Proofs.YtimjblnglhmakaaDoor.P
open Go.RowKit Go.Proofs.YtimjblnglhmakaaDoorW.PrintWords Go.Proofs.YtimjblnglhmakaaDoorW.PrintLast Go.Proofs.YtimjblnglhmakaaDoorW.PrintMore
open Bool renaming true → T, false → F
open List renaming setIfInBounds_toArray → L_, set_cons_zero → M_, set_cons_succ → N_, map_toArray → P_, map_cons → Q_, map_nil → R_, length_drop → S_, length_take → U_
open Aside0 renaming mk → A_
attribute [local go_sem] max2_int min2_int max_two min_two max_three min_three max_four min_four
set_option linter.unusedVariables false
set_option linter.unusedSimpArgs false
attribute [local go_sem] fldOrder_0 fldOrder_1
def spec_seBefore.f (k : Nat) (a0_0 : Int) (l0_1 : List Int) (a1 : Int) (a2 : Int) : Option (Bool) := (spec_orBelow.f k a0_0 l0_1 a1).bind fun t182 => ((spec_seMany.f k t182).bind fun t183 => ((spec_orBelow.f k a0_0 l0_1 a2).bind fun t184 => ((spec_seMany.f k t184).bind fun t185 => (if 0 ≤ a1 then (if a1 < (l0_1.length : Int) then ((spec_seMany.f k (rd l0_1 a1)).bind fun t187 => (if 0 ≤ a2 then (if a2 < (l0_1.length : Int) then ((spec_seMany.f k (rd l0_1 a2)).bind fun t189 => (if t183 = t185 then (if t187 = t189 then (some (decide (a1 < a2))) else (some (decide (t187 > t189)))) else (some (decide (t183 < t185))))) else (none)) else (none))) else (none)) else (none)))))
mutual
def spec_seTrace.l0 : Nat → List Int → Int → Int → List Int → Option (List Int)
 | 0,_,_,_,_=>none
 | k + 1,x3,x4,x191000,x191001=>if x4 < x191000 then (spec_seTrace.l1 k x3 x4 0 x191000 x191001) else (some x3)
def spec_seTrace.l1 : Nat → List Int → Int → Int → Int → List Int → Option (List Int)
 | 0,_,_,_,_,_=>none
 | k + 1,x3,x4,x5,x191000,x191001=>if x5 < (x3.length : Int) then (if 0 ≤ x5 then ((spec_seBefore.f k x191000 x191001 (rd x3 x5) x4).bind fun t192=>(if t192 = true then (spec_seTrace.l1 k x3 x4 (wrap64 (x5 + 1)) x191000 x191001) else (if x5 ≤ (x3.length : Int) then ((spec_l1Own.f (x3.take (x5 : Int).toNat)).bind fun t197=>(if t197.length < 17592186044416 then ((some (t197 ++ [x4] : List Int)).bind fun y200=>((some (x3.drop (x5 : Int).toNat : List Int)).bind fun y203=>(if y200.length + y203.length < 17592186044416 then (spec_seTrace.l0 k (y200 ++ y203) (wrap64 (x4 + 1)) x191000 x191001) else (none)))) else (none))) else (none)))) else (none)) else (if 0 ≤ x5 then (if x5 ≤ (x3.length : Int) then ((spec_l1Own.f (x3.take (x5 : Int).toNat)).bind fun t214=>(if t214.length < 17592186044416 then ((some (t214 ++ [x4] : List Int)).bind fun y217=>((some (x3.drop (x5 : Int).toNat : List Int)).bind fun y220=>(if y217.length + y220.length < 17592186044416 then (spec_seTrace.l0 k (y217 ++ y220) (wrap64 (x4 + 1)) x191000 x191001) else (none)))) else (none))) else (none)) else (none))
end
def spec_seStair.l0 : Nat → List Int → List Int → Int → Int → Int → List Int → Option (List Int)
 | 0,_,_,_,_,_,_=>none
 | k + 1,x3,x7,x8,x9,x228000,x228001=>if x9 < x8 then (if 0 ≤ x9 then (if x9 < (x7.length : Int) then ((spec_orBelow.f k x228000 x228001 (rd x7 x9)).bind fun t232=>((spec_seMany.f k t232).bind fun t233=>(if x3.length < 17592186044416 then (spec_seStair.l0 k (x3 ++ [t233]) x7 x8 (wrap64 (x9 + 1)) x228000 x228001) else (none)))) else (none)) else (none)) else (some x3)
def bits_OnesCount64.f (a0 : Int) : Option (Int) := some (Go.bits .and .i64 (wrap64 (IntKind.u64.wrap ((IntKind.u64.wrap ((IntKind.u64.wrap ((Go.bits .and .u64 (IntKind.u64.wrap (((IntKind.u64.wrap ((Go.bits .and .u64 ((IntKind.u64.wrap ((Go.bits .and .u64 (a0 / 2) 6148914691236517205) + (Go.bits .and .u64 a0 6148914691236517205))) / 4) 3689348814741910323) + (Go.bits .and .u64 (IntKind.u64.wrap ((Go.bits .and .u64 (a0 / 2) 6148914691236517205) + (Go.bits .and .u64 a0 6148914691236517205))) 3689348814741910323))) / 16) + (IntKind.u64.wrap ((Go.bits .and .u64 ((IntKind.u64.wrap ((Go.bits .and .u64 (a0 / 2) 6148914691236517205) + (Go.bits .and .u64 a0 6148914691236517205))) / 4) 3689348814741910323) + (Go.bits .and .u64 (IntKind.u64.wrap ((Go.bits .and .u64 (a0 / 2) 6148914691236517205) + (Go.bits .and .u64 a0 6148914691236517205))) 3689348814741910323))))) 1085102592571150095) + ((Go.bits .and .u64 (IntKind.u64.wrap (((IntKind.u64.wrap ((Go.bits .and .u64 ((IntKind.u64.wrap ((Go.bits .and .u64 (a0 / 2) 6148914691236517205) + (Go.bits .and .u64 a0 6148914691236517205))) / 4) 3689348814741910323) + (Go.bits .and .u64 (IntKind.u64.wrap ((Go.bits .and .u64 (a0 / 2) 6148914691236517205) + (Go.bits .and .u64 a0 6148914691236517205))) 3689348814741910323))) / 16) + (IntKind.u64.wrap ((Go.bits .and .u64 ((IntKind.u64.wrap ((Go.bits .and .u64 (a0 / 2) 6148914691236517205) + (Go.bits .and .u64 a0 6148914691236517205))) / 4) 3689348814741910323) + (Go.bits .and .u64 (IntKind.u64.wrap ((Go.bits .and .u64 (a0 / 2) 6148914691236517205) + (Go.bits .and .u64 a0 6148914691236517205))) 3689348814741910323))))) 1085102592571150095) / 256))) + ((IntKind.u64.wrap ((Go.bits .and .u64 (IntKind.u64.wrap (((IntKind.u64.wrap ((Go.bits .and .u64 ((IntKind.u64.wrap ((Go.bits .and .u64 (a0 / 2) 6148914691236517205) + (Go.bits .and .u64 a0 6148914691236517205))) / 4) 3689348814741910323) + (Go.bits .and .u64 (IntKind.u64.wrap ((Go.bits .and .u64 (a0 / 2) 6148914691236517205) + (Go.bits .and .u64 a0 6148914691236517205))) 3689348814741910323))) / 16) + (IntKind.u64.wrap ((Go.bits .and .u64 ((IntKind.u64.wrap ((Go.bits .and .u64 (a0 / 2) 6148914691236517205) + (Go.bits .and .u64 a0 6148914691236517205))) / 4) 3689348814741910323) + (Go.bits .and .u64 (IntKind.u64.wrap ((Go.bits .and .u64 (a0 / 2) 6148914691236517205) + (Go.bits .and .u64 a0 6148914691236517205))) 3689348814741910323))))) 1085102592571150095) + ((Go.bits .and .u64 (IntKind.u64.wrap (((IntKind.u64.wrap ((Go.bits .and .u64 ((IntKind.u64.wrap ((Go.bits .and .u64 (a0 / 2) 6148914691236517205) + (Go.bits .and .u64 a0 6148914691236517205))) / 4) 3689348814741910323) + (Go.bits .and .u64 (IntKind.u64.wrap ((Go.bits .and .u64 (a0 / 2) 6148914691236517205) + (Go.bits .and .u64 a0 6148914691236517205))) 3689348814741910323))) / 16) + (IntKind.u64.wrap ((Go.bits .and .u64 ((IntKind.u64.wrap ((Go.bits .and .u64 (a0 / 2) 6148914691236517205) + (Go.bits .and .u64 a0 6148914691236517205))) / 4) 3689348814741910323) + (Go.bits .and .u64 (IntKind.u64.wrap ((Go.bits .and .u64 (a0 / 2) 6148914691236517205) + (Go.bits .and .u64 a0 6148914691236517205))) 3689348814741910323))))) 1085102592571150095) / 256))) / 65536))) + ((IntKind.u64.wrap ((IntKind.u64.wrap ((Go.bits .and .u64 (IntKind.u64.wrap (((IntKind.u64.wrap ((Go.bits .and .u64 ((IntKind.u64.wrap ((Go.bits .and .u64 (a0 / 2) 6148914691236517205) + (Go.bits .and .u64 a0 6148914691236517205))) / 4) 3689348814741910323) + (Go.bits .and .u64 (IntKind.u64.wrap ((Go.bits .and .u64 (a0 / 2) 6148914691236517205) + (Go.bits .and .u64 a0 6148914691236517205))) 3689348814741910323))) / 16) + (IntKind.u64.wrap ((Go.bits .and .u64 ((IntKind.u64.wrap ((Go.bits .and .u64 (a0 / 2) 6148914691236517205) + (Go.bits .and .u64 a0 6148914691236517205))) / 4) 3689348814741910323) + (Go.bits .and .u64 (IntKind.u64.wrap ((Go.bits .and .u64 (a0 / 2) 6148914691236517205) + (Go.bits .and .u64 a0 6148914691236517205))) 3689348814741910323))))) 1085102592571150095) + ((Go.bits .and .u64 (IntKind.u64.wrap (((IntKind.u64.wrap ((Go.bits .and .u64 ((IntKind.u64.wrap ((Go.bits .and .u64 (a0 / 2) 6148914691236517205) + (Go.bits .and .u64 a0 6148914691236517205))) / 4) 3689348814741910323) + (Go.bits .and .u64 (IntKind.u64.wrap ((Go.bits .and .u64 (a0 / 2) 6148914691236517205) + (Go.bits .and .u64 a0 6148914691236517205))) 3689348814741910323))) / 16) + (IntKind.u64.wrap ((Go.bits .and .u64 ((IntKind.u64.wrap ((Go.bits .and .u64 (a0 / 2) 6148914691236517205) + (Go.bits .and .u64 a0 6148914691236517205))) / 4) 3689348814741910323) + (Go.bits .and .u64 (IntKind.u64.wrap ((Go.bits .and .u64 (a0 / 2) 6148914691236517205) + (Go.bits .and .u64 a0 6148914691236517205))) 3689348814741910323))))) 1085102592571150095) / 256))) + ((IntKind.u64.wrap ((Go.bits .and .u64 (IntKind.u64.wrap (((IntKind.u64.wrap ((Go.bits .and .u64 ((IntKind.u64.wrap ((Go.bits .and .u64 (a0 / 2) 6148914691236517205) + (Go.bits .and .u64 a0 6148914691236517205))) / 4) 3689348814741910323) + (Go.bits .and .u64 (IntKind.u64.wrap ((Go.bits .and .u64 (a0 / 2) 6148914691236517205) + (Go.bits .and .u64 a0 6148914691236517205))) 3689348814741910323))) / 16) + (IntKind.u64.wrap ((Go.bits .and .u64 ((IntKind.u64.wrap ((Go.bits .and .u64 (a0 / 2) 6148914691236517205) + (Go.bits .and .u64 a0 6148914691236517205))) / 4) 3689348814741910323) + (Go.bits .and .u64 (IntKind.u64.wrap ((Go.bits .and .u64 (a0 / 2) 6148914691236517205) + (Go.bits .and .u64 a0 6148914691236517205))) 3689348814741910323))))) 1085102592571150095) + ((Go.bits .and .u64 (IntKind.u64.wrap (((IntKind.u64.wrap ((Go.bits .and .u64 ((IntKind.u64.wrap ((Go.bits .and .u64 (a0 / 2) 6148914691236517205) + (Go.bits .and .u64 a0 6148914691236517205))) / 4) 3689348814741910323) + (Go.bits .and .u64 (IntKind.u64.wrap ((Go.bits .and .u64 (a0 / 2) 6148914691236517205) + (Go.bits .and .u64 a0 6148914691236517205))) 3689348814741910323))) / 16) + (IntKind.u64.wrap ((Go.bits .and .u64 ((IntKind.u64.wrap ((Go.bits .and .u64 (a0 / 2) 6148914691236517205) + (Go.bits .and .u64 a0 6148914691236517205))) / 4) 3689348814741910323) + (Go.bits .and .u64 (IntKind.u64.wrap ((Go.bits .and .u64 (a0 / 2) 6148914691236517205) + (Go.bits .and .u64 a0 6148914691236517205))) 3689348814741910323))))) 1085102592571150095) / 256))) / 65536))) / 4294967296)))) 127)
def bits_OnesCount.f (a0 : Int) : Option (Int) := (bits_OnesCount64.f a0).bind fun t343 => (some t343)
def impl_count.f (a0 : Int) : Option (Int) := (bits_OnesCount.f (IntKind.u64.wrap (a0))).bind fun t344 => (some t344)
def impl_Order_stair.l0 : Nat → List Int → List Int → Int → Int → Option (List Int)
 | 0,_,_,_,_=>none
 | k + 1,x3,x9,x10,x11=>if x11 < x10 then (if 0 ≤ x11 then (if x11 < (x9.length : Int) then ((impl_count.f (rd x9 x11)).bind fun t477=>(if x3.length < 17592186044416 then (impl_Order_stair.l0 k (x3 ++ [t477]) x9 x10 (wrap64 (x11 + 1))) else (none))) else (none)) else (none)) else (some x3)
end Go.Proofs.YtimjblnglhmakaaDoor.P
namespace Go.Proofs.YtimjblnglhmakaaDoor.P
open Go.RowKit Go.Proofs.YtimjblnglhmakaaDoorW.PrintWords Go.Proofs.YtimjblnglhmakaaDoorW.PrintLast Go.Proofs.YtimjblnglhmakaaDoorW.PrintMore
open Bool renaming true → T, false → F
open List renaming setIfInBounds_toArray → L_, set_cons_zero → M_, set_cons_succ → N_, map_toArray → P_, map_cons → Q_, map_nil → R_, length_drop → S_, length_take → U_
open Aside0 renaming mk → A_
attribute [local go_sem] max2_int min2_int max_two min_two max_three min_three max_four min_four
set_option linter.unusedVariables false
set_option linter.unusedSimpArgs false
attribute [local go_sem] fldOrder_0 fldOrder_1
end Go.Proofs.YtimjblnglhmakaaDoor.P
namespace Go.Proofs.YtimjblnglhmakaaDoor.M
open Go.RowKit Go.Proofs.YtimjblnglhmakaaDoorW.PrintMore Go.Proofs.YtimjblnglhmakaaDoorW.PrintLast Go.Proofs.YtimjblnglhmakaaDoorW.PrintWords Go.Proofs.YtimjblnglhmakaaDoor.P
def free (l : List Int) (i j : Nat) : Bool := !B l i j && (!B l j i && decide (j ≠ i))
def hit22 (l : List Int) (a b c d : Nat) : Bool := B l a b && (B l c d && (!B l c b && !B l a d))
def hit31 (l : List Int) (a b c d : Nat) : Bool := B l a b && (B l b c && (free l a d && (free l b d && free l c d)))
def no22 (n : Nat) (l : List Int) : Bool := allB n fun a => allB n fun b => allB n fun c => allB n fun d => !hit22 l a b c d
def no31 (n : Nat) (l : List Int) : Bool := allB n fun a => allB n fun b => allB n fun c => allB n fun d => !hit31 l a b c d
theorem no22_iff {n : Nat} {l : List Int} : no22 n l = true ↔ ∀ a, a < n → ∀ b, b < n → ∀ c, c < n → ∀ d, d < n → hit22 l a b c d = false := by
  unfold no22
  simp only [allB_iff, Bool.not_eq_true']
theorem no31_iff {n : Nat} {l : List Int} : no31 n l = true ↔ ∀ a, a < n → ∀ b, b < n → ∀ c, c < n → ∀ d, d < n → hit31 l a b c d = false := by
  unfold no31
  simp only [allB_iff, Bool.not_eq_true']
def hit22s (l : List Int) (a b c d : Nat) : Bool := B l a b && (B l c d && (free l a d && free l c b))
theorem hit22_same {n : Nat} {l : List Int} (o : Ord n l) (a b c d : Nat) : hit22 l a b c d = hit22s l a b c d := by
  unfold hit22 hit22s free
  cases h1 : B l a b with
  | false => rfl
  | true =>
    cases h2 : B l c d with
    | false => rfl
    | true =>
      cases h3 : B l c b with
      | true => simp
      | false =>
        cases h4 : B l a d with
        | true => simp
        | false =>
          have e1 : B l d a = false := by
            cases h : B l d a with
            | false => rfl
            | true => have := o.trans c a b (o.trans c d a h2 h) h1; rw [h3] at this; cases this
          have e2 : B l b c = false := by
            cases h : B l b c with
            | false => rfl
            | true => have := o.trans a c d (o.trans a b c h1 h) h2; rw [h4] at this; cases this
          have e3 : d ≠ a := by rintro rfl; have := o.trans c d b h2 h1; rw [h3] at this; cases this
          have e4 : b ≠ c := by rintro rfl; have := o.trans a b d h1 h2; rw [h4] at this; cases this
          simp [e1, e2, e3, e4]
def isSemi (n : Int) (l : List Int) : Bool := isOrd n l && (no22 n.toNat l && no31 n.toNat l)
def cnt (n : Nat) (p : Nat → Bool) : Nat := ((List.range n).filter p).length
theorem cnt_le_of {n : Nat} {p q : Nat → Bool} (h : ∀ k, p k = true → q k = true) : cnt n p ≤ cnt n q := by
  unfold cnt
  rw [← List.countP_eq_length_filter, ← List.countP_eq_length_filter]
  exact List.countP_mono_left fun x _ hx => h x hx
theorem cnt_lt_of {n : Nat} {p q : Nat → Bool} (h : ∀ k, p k = true → q k = true) (x : Nat) (hx : x < n) (h1 : p x = false) (h2 : q x = true) : cnt n p < cnt n q := by
  have key : ∀ (L : List Nat), (L.filter p).length ≤ (L.filter q).length := by
    intro L
    rw [← List.countP_eq_length_filter, ← List.countP_eq_length_filter]
    exact List.countP_mono_left fun x _ hx => h x hx
  have : ∀ (L : List Nat), x ∈ L → (L.filter p).length < (L.filter q).length := by
    intro L
    induction L with
    | nil => simp
    | cons a L ih =>
      intro hm
      have hk := key L
      rw [List.filter_cons, List.filter_cons]
      rcases List.mem_cons.1 hm with rfl | hm
      · simp [h1, h2]; omega
      · have := ih hm
        cases hp : p a with
        | false =>
          cases hq : q a with
          | false => simpa using this
          | true => simp; omega
        | true => simpa [h a hp] using this
  exact this _ (List.mem_range.2 hx)
theorem cnt_le (n : Nat) (p : Nat → Bool) : cnt n p ≤ n := by
  have := List.length_filter_le p (List.range n)
  rw [List.length_range] at this
  exact this
def num (n : Nat) (l : List Int) (i : Nat) : Int := (cnt n (fun k => B l k i) : Int) - (cnt n (fun k => B l i k) : Int)
section
variable {n : Nat} {l : List Int}
theorem semi_below (h22 : ∀ a b c d, hit22 l a b c d = false) {i j x : Nat} (h1 : B l x j = true) (h2 : B l x i = false) : ∀ k, B l k i = true → B l k j = true := by
  intro k hk
  cases hb : B l k j with
  | true => rfl
  | false =>
    have := h22 k i x j
    simp [hit22, h1, h2, hk, hb] at this
theorem semi_above (h22 : ∀ a b c d, hit22 l a b c d = false) {i j y : Nat} (h1 : B l i y = true) (h2 : B l j y = false) : ∀ k, B l j k = true → B l i k = true := by
  intro k hk
  cases hb : B l i k with
  | true => rfl
  | false =>
    have := h22 i y j k
    simp [hit22, h1, h2, hk, hb] at this
theorem semi_three (o : Ord n l) (h31 : ∀ a b c d, d < n → hit31 l a b c d = false) {i j x y : Nat} (hi : i < n) (h1 : B l x j = true) (h2 : B l x i = false) (h3 : B l j y = true) (h4 : B l i y = false) : False := by
  have no : ∀ {a b : Nat}, (B l a b = true → False) → B l a b = false := fun {a b} h => by
    cases hb : B l a b with
    | false => rfl
    | true => exact (h hb).elim
  have e1 : B l i x = false := no fun h => by have := o.trans i j y (o.trans i x j h h1) h3; rw [h4] at this; cases this
  have n1 : i ≠ x := by rintro rfl; have := o.trans i j y h1 h3; rw [h4] at this; cases this
  have e2 : B l i j = false := no fun h => by have := o.trans i j y h h3; rw [h4] at this; cases this
  have e3 : B l j i = false := no fun h => by have := o.trans x j i h1 h; rw [h2] at this; cases this
  have n2 : i ≠ j := by rintro rfl; rw [h2] at h1; cases h1
  have e4 : B l y i = false := no fun h => by have := o.trans x j i h1 (o.trans j y i h3 h); rw [h2] at this; cases this
  have n3 : i ≠ y := by rintro rfl; have := o.trans x j i h1 h3; rw [h2] at this; cases this
  have := h31 x j y i hi
  simp [hit31, free, h1, h2, h3, h4, e1, n1, e2, e3, n2, e4, n3] at this
theorem semi_trace (o : Ord n l) (h22 : ∀ a b c d, hit22 l a b c d = false) (h31 : ∀ a b c d, d < n → hit31 l a b c d = false) (i j : Nat) (hi : i < n) (hj : j < n) : ((∃ x, B l x j = true ∧ B l x i = false) ∨ (∃ y, B l i y = true ∧ B l j y = false)) ↔ num n l i < num n l j := by
  unfold num
  constructor
  · rintro (⟨x, h1, h2⟩ | ⟨y, h1, h2⟩)
    · have a1 : cnt n (fun k => B l k i) < cnt n (fun k => B l k j) := cnt_lt_of (semi_below h22 h1 h2) x (o.toRel.B_lt' h1) h2 h1
      have a2 : cnt n (fun k => B l j k) ≤ cnt n (fun k => B l i k) := cnt_le_of fun k hk => by
        cases hb : B l i k with
        | true => rfl
        | false => exact (semi_three o h31 hi h1 h2 hk hb).elim
      omega
    · have a1 : cnt n (fun k => B l j k) < cnt n (fun k => B l i k) := cnt_lt_of (semi_above h22 h1 h2) y (o.toRel.B_lt h1) h2 h1
      have a2 : cnt n (fun k => B l k i) ≤ cnt n (fun k => B l k j) := cnt_le_of fun k hk => by
        cases hb : B l k j with
        | true => rfl
        | false => exact (semi_three o h31 hj hk hb h1 h2).elim
      omega
  · intro h
    refine Classical.byContradiction fun hno => ?_
    have a1 : cnt n (fun k => B l k j) ≤ cnt n (fun k => B l k i) := cnt_le_of fun k hk => by
      cases hb : B l k i with
      | true => rfl
      | false => exact (hno (.inl ⟨k, hk, hb⟩)).elim
    have a2 : cnt n (fun k => B l i k) ≤ cnt n (fun k => B l j k) := cnt_le_of fun k hk => by
      cases hb : B l j k with
      | true => rfl
      | false => exact (hno (.inr ⟨k, hk, hb⟩)).elim
    omega
end
end Go.Proofs.YtimjblnglhmakaaDoor.M
namespace Go.Proofs.YtimjblnglhmakaaDoor.M
open Go.RowKit Go.Proofs.YtimjblnglhmakaaDoorW.PrintMore Go.Proofs.YtimjblnglhmakaaDoorW.PrintLast Go.Proofs.YtimjblnglhmakaaDoorW.PrintWords Go.Proofs.YtimjblnglhmakaaDoor.P
set_option maxRecDepth 4000
theorem indif_bit (n : Nat) (l : List Int) (i j : Nat) : (indif n l i).testBit j = (decide (j < n) && free l i j) := by
  unfold indif
  rw [testBit_setOf]
  rfl
theorem indif_lt (n : Nat) (l : List Int) (i : Nat) : indif n l i < 2 ^ n := setOf_lt n _
theorem indif_62 {n : Nat} (hn : n ≤ 10) (l : List Int) (i : Nat) : indif n l i < 9223372036854775808 := lt62 (indif_lt n l i) (by omega)
theorem elems_getD {n s q : Nat} (h : q < (elems n s).length) : (elems n s).getD q 0 < n ∧ s.testBit ((elems n s).getD q 0) = true := mem_elems.1 (by simp [h])
theorem elems_index {n s j : Nat} (hj : j < n) (h : s.testBit j = true) : ∃ q, q < (elems n s).length ∧ (elems n s).getD q 0 = j := by
  obtain ⟨q, hq, e⟩ := List.getElem_of_mem (mem_elems.2 ⟨hj, h⟩)
  exact ⟨q, hq, by simp [hq, e]⟩
theorem ints_rd (l : List Nat) (q : Nat) (h : q < l.length) : rd (ints l) (q : Int) = ((l.getD q 0 : Nat) : Int) := by rw [rd_nat, ints_getD _ _ h]
theorem zero_elems {n s : Nat} (h : s < 2 ^ n) : s = 0 ↔ ∀ j, j < n → s.testBit j = false := by
  constructor
  · rintro rfl j _
    exact Nat.zero_testBit j
  · intro H
    apply Nat.eq_of_testBit_eq
    intro j
    rw [Nat.zero_testBit]
    by_cases hj : j < n
    · exact H j hj
    · exact Nat.testBit_lt_two_pow (Nat.lt_of_lt_of_le h (Nat.pow_le_pow_right (by decide) (by omega)))
theorem twoTwo_ev {n : Nat} {l : List Int} (h : Rel n l) : EvP (fun k => impl_Order_twoTwo.f k (n : Int) l) (fun r => r = []) (∀ a, a < n → ∀ b, b < n → ∀ c, c < n → ∀ d, d < n → hit22 l a b c d = false) := by
  have hn := h.le
  unfold impl_Order_twoTwo.f
  refine EvP.iff (EvP.loop (fun a k => impl_Order_twoTwo.l0 k (n : Int) (a : Int) (n : Int) l) n (fun a => ∀ b, b < n → ∀ c, c < n → ∀ d, d < n → hit22 l a b c d = false) True ?_ ?_) (by rw [and_true])
  · intro a T ha next
    refine EvP.step (fun _ => rfl) ?_
    simp only [impl_Order_twoTwo.l0, if_pos (show (a : Int) < (n : Int) by omega)]
    refine EvP.loop (fun b k => impl_Order_twoTwo.l1 k (a : Int) (n : Int) (a : Int) (n : Int) (b : Int) (n : Int) l) n (fun b => ∀ c, c < n → ∀ d, d < n → hit22 l a b c d = false) T ?_ ?_
    · intro b T hb next
      refine EvP.step (fun _ => rfl) ?_
      simp only [impl_Order_twoTwo.l1, if_pos (show (b : Int) < (n : Int) by omega)]
      refine EvP.loop (fun c k => impl_Order_twoTwo.l2 k (a : Int) (b : Int) (n : Int) (a : Int) (n : Int) (b : Int) (n : Int) (c : Int) (n : Int) l) n (fun c => ∀ d, d < n → hit22 l a b c d = false) T ?_ ?_
      · intro c T hc next
        refine EvP.step (fun _ => rfl) ?_
        simp only [impl_Order_twoTwo.l2, if_pos (show (c : Int) < (n : Int) by omega)]
        refine EvP.loop (fun d k => impl_Order_twoTwo.l3 k (a : Int) (b : Int) (c : Int) (n : Int) (a : Int) (n : Int) (b : Int) (n : Int) (c : Int) (n : Int) (d : Int) (n : Int) l) n (fun d => hit22 l a b c d = false) T ?_ ?_
        · intro d T hd next
          refine EvP.step (fun _ => rfl) ?_
          simp only [impl_Order_twoTwo.l3, if_pos (show (d : Int) < (n : Int) by omega), better_eq h _ _ _ ha (show b ≤ 62 by omega), better_eq h _ _ _ hc (show d ≤ 62 by omega), better_eq h _ _ _ hc (show b ≤ 62 by omega), better_eq h _ _ _ ha (show d ≤ 62 by omega), Option.bind_some, next64 d n hd (by omega)]
          unfold hit22
          cases h1 : B l a b with
          | false => simp only [Bool.false_eq_true, if_false]; exact EvP.iff next (by simp)
          | true =>
            cases h2 : B l c d with
            | false => simp only [Bool.false_eq_true, if_false, if_true]; exact EvP.iff next (by simp)
            | true =>
              cases h3 : B l c b with
              | true => simp only [if_true]; exact EvP.iff next (by simp)
              | false =>
                cases h4 : B l a d with
                | true => simp only [Bool.false_eq_true, if_false, if_true]; exact EvP.iff next (by simp)
                | false => simp only [Bool.false_eq_true, if_false, if_true]; exact EvP.now (by simp)
        · refine EvP.step (fun _ => rfl) ?_
          simp only [impl_Order_twoTwo.l3, if_neg (show ¬ (n : Int) < (n : Int) by omega), next64 c n hc (by omega)]
          exact next
      · refine EvP.step (fun _ => rfl) ?_
        simp only [impl_Order_twoTwo.l2, if_neg (show ¬ (n : Int) < (n : Int) by omega), next64 b n hb (by omega)]
        exact next
    · refine EvP.step (fun _ => rfl) ?_
      simp only [impl_Order_twoTwo.l1, if_neg (show ¬ (n : Int) < (n : Int) by omega), next64 a n ha (by omega)]
      exact next
  · refine EvP.step (fun _ => rfl) ?_
    simp only [impl_Order_twoTwo.l0, if_neg (show ¬ (n : Int) < (n : Int) by omega)]
    exact EvP.now (by simp)
theorem over_elems {n : Nat} {l : List Int} (h : Rel n l) (p : Nat → Nat → Nat → Prop) : (∀ a, a < n → ∀ q, q < (elems n (row l a)).length → ∀ q', q' < (elems n (row l ((elems n (row l a)).getD q 0))).length → p a ((elems n (row l a)).getD q 0) ((elems n (row l ((elems n (row l a)).getD q 0))).getD q' 0)) ↔ ∀ a b c, B l a b = true → B l b c = true → p a b c := by
  constructor
  · intro H a b c h1 h2
    obtain ⟨q, hq, rfl⟩ := elems_index (h.B_lt h1) h1
    obtain ⟨q', hq', rfl⟩ := elems_index (h.B_lt h2) h2
    exact H a (h.B_lt' h1) q hq q' hq'
  · intro H a _ q hq q' hq'
    exact H a _ _ (elems_getD hq).2 (elems_getD hq').2
def near3 (n : Nat) (l : List Int) (a b c : Nat) : Nat := indif n l a &&& indif n l b &&& indif n l c
theorem near3_lt (n : Nat) (l : List Int) (a b c : Nat) : near3 n l a b c < 2 ^ n := Nat.and_lt_two_pow _ (indif_lt n l c)
theorem near3_i64 {n : Nat} (hn : n ≤ 10) (l : List Int) (a b c : Nat) : Go.bits .and .i64 (Go.bits .and .i64 ((indif n l a : Nat) : Int) ((indif n l b : Nat) : Int)) ((indif n l c : Nat) : Int) = ((near3 n l a b c : Nat) : Int) := by
  rw [and_i64 _ _ (indif_62 hn l a) (indif_62 hn l b), and_i64 _ _ (lt62 (Nat.and_lt_two_pow _ (indif_lt n l b)) (by omega)) (indif_62 hn l c)]
  rfl
theorem near3_hit {n : Nat} {l : List Int} (h : Rel n l) : (∀ a b c, B l a b = true → B l b c = true → near3 n l a b c = 0) ↔ ∀ a, a < n → ∀ b, b < n → ∀ c, c < n → ∀ d, d < n → hit31 l a b c d = false := by
  have key : ∀ a b c, near3 n l a b c = 0 ↔ ∀ d, d < n → (free l a d && (free l b d && free l c d)) = false := by
    intro a b c
    rw [zero_elems (near3_lt n l a b c)]
    constructor
    · intro H d hd
      have := H d hd
      unfold near3 at this
      rw [Nat.testBit_and, Nat.testBit_and, indif_bit, indif_bit, indif_bit, decide_eq_true hd] at this
      simpa [Bool.and_assoc] using this
    · intro H d hd
      have := H d hd
      unfold near3
      rw [Nat.testBit_and, Nat.testBit_and, indif_bit, indif_bit, indif_bit, decide_eq_true hd]
      simpa [Bool.and_assoc] using this
  constructor
  · intro H a _ b _ c _ d hd
    unfold hit31
    cases h1 : B l a b with
    | false => rfl
    | true =>
      cases h2 : B l b c with
      | false => rfl
      | true => rw [Bool.true_and, Bool.true_and]; exact (key a b c).1 (H a b c h1 h2) d hd
  · intro H a b c h1 h2
    refine (key a b c).2 fun d hd => ?_
    have := H a (h.B_lt' h1) b (h.B_lt h1) c (h.B_lt h2) d hd
    unfold hit31 at this
    rwa [h1, h2, Bool.true_and, Bool.true_and] at this
theorem nears_rd {n : Nat} {l : List Int} (i : Nat) (hi : i < n) : rd ((List.range n).map fun i => ((indif n l i : Nat) : Int)) (i : Int) = ((indif n l i : Nat) : Int) := by
  rw [rd_nat]
  simp [hi]
theorem elems_pos {n s : Nat} (h : s < 2 ^ n) (h0 : s ≠ 0) : 0 < (elems n s).length := by
  refine Nat.pos_of_ne_zero fun he => h0 ((zero_elems h).2 fun j hj => ?_)
  cases hb : s.testBit j with
  | false => rfl
  | true =>
    have := mem_elems.2 ⟨hj, hb⟩
    rw [List.eq_nil_of_length_eq_zero he] at this
    cases this
theorem threeOne_ev {n : Nat} {l : List Int} (h : Rel n l) : EvP (fun k => impl_Order_threeOne.f k (n : Int) l) (fun r => r = []) (∀ a, a < n → ∀ b, b < n → ∀ c, c < n → ∀ d, d < n → hit31 l a b c d = false) := by
  have hn := h.le
  have hlen := h.len
  unfold impl_Order_threeOne.f
  refine EvP.bind (indifs_ev h) ?_
  refine EvP.iff (EvP.loop (fun a k => impl_Order_threeOne.l0 k ((List.range n).map fun i => ((indif n l i : Nat) : Int)) (n : Int) (a : Int) (n : Int) l) n (fun a => ∀ q, q < (elems n (row l a)).length → ∀ q', q' < (elems n (row l ((elems n (row l a)).getD q 0))).length → near3 n l a ((elems n (row l a)).getD q 0) ((elems n (row l ((elems n (row l a)).getD q 0))).getD q' 0) = 0) True ?_ ?_) (by rw [and_true]; exact (over_elems h (fun a b c => near3 n l a b c = 0)).trans (near3_hit h))
  · intro a T ha next
    refine EvP.step (fun _ => rfl) ?_
    simp only [impl_Order_threeOne.l0, if_pos (show (a : Int) < (n : Int) by omega), if_pos (show (0 : Int) ≤ (a : Int) by omega), hlen, h.rd]
    refine EvP.bind (members_ev n (by omega) _ (h.row_lt a)) ?_
    have hE := elems_length_le n (row l a)
    rw [ints_length]
    refine EvP.loop (fun q k => impl_Order_threeOne.l1 k ((List.range n).map fun i => ((indif n l i : Nat) : Int)) (a : Int) (n : Int) (a : Int) (ints (elems n (row l a))) ((elems n (row l a)).length : Int) (q : Int) (n : Int) l) (elems n (row l a)).length (fun q => ∀ q', q' < (elems n (row l ((elems n (row l a)).getD q 0))).length → near3 n l a ((elems n (row l a)).getD q 0) ((elems n (row l ((elems n (row l a)).getD q 0))).getD q' 0) = 0) T ?_ ?_
    · intro q T hq next
      obtain ⟨hb, _⟩ := elems_getD hq
      refine EvP.step (fun _ => rfl) ?_
      simp only [impl_Order_threeOne.l1, if_pos (show (q : Int) < ((elems n (row l a)).length : Int) by omega), if_pos (show (0 : Int) ≤ (q : Int) by omega), ints_length, ints_rd _ _ hq]
      generalize (elems n (row l a)).getD q 0 = b at hb next ⊢
      simp only [if_pos (show (0 : Int) ≤ (b : Int) by omega), hlen, if_pos (show (b : Int) < (n : Int) by omega), h.rd]
      refine EvP.bind (members_ev n (by omega) _ (h.row_lt b)) ?_
      have hE' := elems_length_le n (row l b)
      rw [ints_length]
      refine EvP.loop (fun q' k => impl_Order_threeOne.l2 k ((List.range n).map fun i => ((indif n l i : Nat) : Int)) (a : Int) (b : Int) (n : Int) (a : Int) (ints (elems n (row l a))) ((elems n (row l a)).length : Int) (q : Int) (ints (elems n (row l b))) ((elems n (row l b)).length : Int) (q' : Int) (n : Int) l) (elems n (row l b)).length (fun q' => near3 n l a b ((elems n (row l b)).getD q' 0) = 0) T ?_ ?_
      · intro q' T hq' next
        obtain ⟨hc, _⟩ := elems_getD hq'
        refine EvP.step (fun _ => rfl) ?_
        simp only [impl_Order_threeOne.l2, if_pos (show (q' : Int) < ((elems n (row l b)).length : Int) by omega), if_pos (show (0 : Int) ≤ (q' : Int) by omega), ints_length, ints_rd _ _ hq', next64 q' _ hq' (by omega)]
        generalize (elems n (row l b)).getD q' 0 = c at hc next ⊢
        simp only [List.length_map, List.length_range, if_pos (show (0 : Int) ≤ (a : Int) by omega), if_pos (show (a : Int) < (n : Int) by omega), if_pos (show (0 : Int) ≤ (b : Int) by omega), if_pos (show (b : Int) < (n : Int) by omega), if_pos (show (0 : Int) ≤ (c : Int) by omega), if_pos (show (c : Int) < (n : Int) by omega), nears_rd _ ha, nears_rd _ hb, nears_rd _ hc, near3_i64 hn]
        by_cases h0 : near3 n l a b c = 0
        · simp only [if_pos (show ((near3 n l a b c : Nat) : Int) = 0 by omega)]
          exact EvP.iff next (by simp [h0])
        · simp only [if_neg (show ¬ ((near3 n l a b c : Nat) : Int) = 0 by omega)]
          refine EvP.bind (members_ev n (by omega) _ (near3_lt n l a b c)) ?_
          have := elems_pos (near3_lt n l a b c) h0
          simp only [ints_length, if_pos (show (0 : Int) < ((elems n (near3 n l a b c)).length : Int) by omega)]
          exact EvP.now (by simp [h0])
      · refine EvP.step (fun _ => rfl) ?_
        simp only [impl_Order_threeOne.l2, if_neg (show ¬ ((elems n (row l b)).length : Int) < ((elems n (row l b)).length : Int) by omega), next64 q _ hq (by omega)]
        exact next
    · refine EvP.step (fun _ => rfl) ?_
      simp only [impl_Order_threeOne.l1, if_neg (show ¬ ((elems n (row l a)).length : Int) < ((elems n (row l a)).length : Int) by omega), next64 a n ha (by omega)]
      exact next
  · refine EvP.step (fun _ => rfl) ?_
    simp only [impl_Order_threeOne.l0, if_neg (show ¬ (n : Int) < (n : Int) by omega)]
    exact EvP.now (by simp)
def isInt (n : Int) (l : List Int) : Bool := isOrd n l && no22 n.toNat l
theorem isInterval_ev (n : Int) (l : List Int) (hl : l.length ≤ 140737488355328) : Ev (fun k => impl_isInterval.f k n l) (isInt n l) := by
  unfold impl_isInterval.f isInt
  refine Ev.bind (IsOrder_ev n l hl) ?_
  cases ho : isOrd n l with
  | false => simp only [Bool.false_eq_true, if_false, Bool.false_and]; exact Ev.now _
  | true =>
    obtain ⟨n, rfl, o⟩ := isOrd_iff.1 ho
    simp only [if_true, Bool.true_and, Int.toNat_natCast]
    obtain ⟨r, hr, e⟩ := twoTwo_ev o.toRel
    refine Ev.bind hr (Ev.to (Ev.now _) ?_)
    rw [Bool.eq_iff_iff, beq_iff_eq, no22_iff]
    exact e
theorem isSemi_ev (n : Int) (l : List Int) (hl : l.length ≤ 140737488355328) : Ev (fun k => impl_isSemi.f k n l) (isSemi n l) := by
  unfold impl_isSemi.f isSemi
  refine Ev.bind (isInterval_ev n l hl) ?_
  unfold isInt
  cases ho : isOrd n l with
  | false => simp only [Bool.false_eq_true, if_false, Bool.false_and]; exact Ev.now _
  | true =>
    obtain ⟨n, rfl, o⟩ := isOrd_iff.1 ho
    simp only [Bool.true_and, Int.toNat_natCast]
    cases h2 : no22 n l with
    | false => simp only [Bool.false_eq_true, if_false, Bool.false_and]; exact Ev.now _
    | true =>
      simp only [if_true, Bool.true_and]
      obtain ⟨r, hr, e⟩ := threeOne_ev o.toRel
      refine Ev.bind hr (Ev.to (Ev.now _) ?_)
      rw [Bool.eq_iff_iff, beq_iff_eq, no31_iff]
      exact e
theorem orFree_ev {n : Nat} {l : List Int} (h : Rel n l) (i : Nat) (hi : i < n) : Ev (fun k => spec_orFree.f k (n : Int) l (i : Int)) ((indif n l i : Nat) : Int) := by
  have hn := h.le
  unfold spec_orFree.f
  simp only [if_pos (show (0 : Int) ≤ (n : Int) by omega), if_pos (show (0 : Int) ≤ (i : Int) by omega), h.len, if_pos (show (i : Int) < (n : Int) by omega)]
  refine Ev.bind (orBelow_ev h _ i (by omega)) ?_
  have hp : (2 : Nat) ^ n - 1 < 9223372036854775808 := by
    have : (2 : Nat) ^ n ≤ 2 ^ 10 := Nat.pow_le_pow_right (by decide) hn
    omega
  have hb : setOf n (fun j => B l j i) < 2 ^ n := setOf_lt n _
  have hi2 : (2 : Nat) ^ i < 2 ^ n := Nat.pow_lt_pow_right (by decide) hi
  have g1 : row l i ||| setOf n (fun j => B l j i) < 2 ^ n := Nat.or_lt_two_pow (h.row_lt i) hb
  have g2 : row l i ||| setOf n (fun j => B l j i) ||| 2 ^ i < 2 ^ n := Nat.or_lt_two_pow g1 hi2
  have e1 : wrap64 (shl .i64 1 (n : Int) - 1) = ((2 ^ n - 1 : Nat) : Int) := by
    rw [pow_of n (by omega) (by omega), Int.toNat_natCast]
    have := Nat.two_pow_pos n
    omega
  rw [e1, h.rd, shl1 i (by omega), or_i64 _ _ (h.row_62 i) (lt62 hb (by omega)), or_i64 _ _ (lt62 g1 (by omega)) (lt62 hi2 (by omega)), andNot_i64 _ _ hp (lt62 g2 (by omega))]
  refine Ev.to (Ev.now _) ?_
  congr 1
  apply Nat.eq_of_testBit_eq
  intro j
  rw [indif_bit, testBit_diff, Nat.testBit_two_pow_sub_one, Nat.testBit_or, Nat.testBit_or, Nat.testBit_two_pow, testBit_setOf, show (row l i).testBit j = B l i j from rfl]
  unfold free
  by_cases hj : j < n
  · by_cases e : i = j
    · simp [hj, e]
    · simp [hj, e, Ne.symm e]
  · simp [hj]
theorem seIndifferent_ev {n : Nat} {l : List Int} (h : Rel n l) (i j : Nat) (hi : i < n) (hj : j < n) : Ev (fun k => spec_seIndifferent.f k (n : Int) l (i : Int) (j : Int)) (free l i j) := by
  have hn := h.le
  unfold spec_seIndifferent.f
  refine Ev.bind (orFree_ev h i hi) ?_
  simp only [orHas_eq _ j (by omega), Option.bind_some]
  exact Ev.to (Ev.now _) (by rw [indif_bit, decide_eq_true hj, Bool.true_and])
theorem sThreeOne_ev {n : Nat} {l : List Int} (h : Rel n l) : EvP (fun k => spec_ThreeOneOf.l0 k 0 (n : Int) l) (fun r => r.2 = false) (∀ a, a < n → ∀ b, b < n → ∀ c, c < n → ∀ d, d < n → hit31 l a b c d = false) := by
  have hn := h.le
  have hlen := h.len
  refine EvP.iff (EvP.loop (fun a k => spec_ThreeOneOf.l0 k (a : Int) (n : Int) l) n (fun a => ∀ q, q < (elems n (row l a)).length → ∀ q', q' < (elems n (row l ((elems n (row l a)).getD q 0))).length → near3 n l a ((elems n (row l a)).getD q 0) ((elems n (row l ((elems n (row l a)).getD q 0))).getD q' 0) = 0) True ?_ ?_) (by rw [and_true]; exact (over_elems h (fun a b c => near3 n l a b c = 0)).trans (near3_hit h))
  · intro a T ha next
    refine EvP.step (fun _ => rfl) ?_
    simp only [spec_ThreeOneOf.l0, if_pos (show (a : Int) < (n : Int) by omega), if_pos (show (0 : Int) ≤ (a : Int) by omega), hlen, h.rd]
    refine EvP.bind (orList_ev n (by omega) _ (h.row_lt a)) ?_
    have hE := elems_length_le n (row l a)
    rw [ints_length]
    refine EvP.loop (fun q k => spec_ThreeOneOf.l1 k (a : Int) (ints (elems n (row l a))) ((elems n (row l a)).length : Int) (q : Int) (n : Int) l) (elems n (row l a)).length (fun q => ∀ q', q' < (elems n (row l ((elems n (row l a)).getD q 0))).length → near3 n l a ((elems n (row l a)).getD q 0) ((elems n (row l ((elems n (row l a)).getD q 0))).getD q' 0) = 0) T ?_ ?_
    · intro q T hq next
      obtain ⟨hb, _⟩ := elems_getD hq
      refine EvP.step (fun _ => rfl) ?_
      simp only [spec_ThreeOneOf.l1, if_pos (show (q : Int) < ((elems n (row l a)).length : Int) by omega), if_pos (show (0 : Int) ≤ (q : Int) by omega), ints_length, ints_rd _ _ hq]
      generalize (elems n (row l a)).getD q 0 = b at hb next ⊢
      simp only [if_pos (show (0 : Int) ≤ (b : Int) by omega), hlen, if_pos (show (b : Int) < (n : Int) by omega), h.rd]
      refine EvP.bind (orList_ev n (by omega) _ (h.row_lt b)) ?_
      have hE' := elems_length_le n (row l b)
      rw [ints_length]
      refine EvP.loop (fun q' k => spec_ThreeOneOf.l2 k (a : Int) (b : Int) (ints (elems n (row l a))) ((elems n (row l a)).length : Int) (q : Int) (ints (elems n (row l b))) ((elems n (row l b)).length : Int) (q' : Int) (n : Int) l) (elems n (row l b)).length (fun q' => near3 n l a b ((elems n (row l b)).getD q' 0) = 0) T ?_ ?_
      · intro q' T hq' next
        obtain ⟨hc, _⟩ := elems_getD hq'
        refine EvP.step (fun _ => rfl) ?_
        simp only [spec_ThreeOneOf.l2, if_pos (show (q' : Int) < ((elems n (row l b)).length : Int) by omega), if_pos (show (0 : Int) ≤ (q' : Int) by omega), ints_length, ints_rd _ _ hq']
        generalize (elems n (row l b)).getD q' 0 = c at hc next ⊢
        refine EvP.bind (orFree_ev h a ha) ?_
        refine EvP.bind (orFree_ev h b hb) ?_
        refine EvP.bind (orFree_ev h c hc) ?_
        simp only [near3_i64 hn]
        refine EvP.bind (orList_ev n (by omega) _ (near3_lt n l a b c)) ?_
        by_cases h0 : near3 n l a b c = 0
        · rw [h0, elems_zero]
          refine EvP.step (fun _ => rfl) ?_
          simp only [spec_ThreeOneOf.l3, ints, List.map_nil, List.length_nil, if_neg (show ¬ (0 : Int) < ((0 : Nat) : Int) by omega), next64 q' _ hq' (by omega)]
          exact EvP.iff next (by simp)
        · have hp := elems_pos (near3_lt n l a b c) h0
          refine EvP.step (fun _ => rfl) ?_
          rw [ints_length]
          simp only [spec_ThreeOneOf.l3, ints_length, if_pos (show (0 : Int) < ((elems n (near3 n l a b c)).length : Int) by omega), if_pos (show (0 : Int) ≤ 0 by omega)]
          exact EvP.now (by simp [h0])
      · refine EvP.step (fun _ => rfl) ?_
        simp only [spec_ThreeOneOf.l2, if_neg (show ¬ ((elems n (row l b)).length : Int) < ((elems n (row l b)).length : Int) by omega), next64 q _ hq (by omega)]
        exact next
    · refine EvP.step (fun _ => rfl) ?_
      simp only [spec_ThreeOneOf.l1, if_neg (show ¬ ((elems n (row l a)).length : Int) < ((elems n (row l a)).length : Int) by omega), next64 a n ha (by omega)]
      exact next
  · refine EvP.step (fun _ => rfl) ?_
    simp only [spec_ThreeOneOf.l0, if_neg (show ¬ (n : Int) < (n : Int) by omega)]
    exact EvP.now (by simp)
theorem over_pairs {n : Nat} {l : List Int} (h : Rel n l) (p : Nat → Nat → Nat → Nat → Prop) : (∀ a, a < n → ∀ q, q < (elems n (row l a)).length → ∀ c, c < n → ∀ q', q' < (elems n (row l c)).length → p a ((elems n (row l a)).getD q 0) c ((elems n (row l c)).getD q' 0)) ↔ ∀ a b c d, B l a b = true → B l c d = true → p a b c d := by
  constructor
  · intro H a b c d h1 h2
    obtain ⟨q, hq, rfl⟩ := elems_index (h.B_lt h1) h1
    obtain ⟨q', hq', rfl⟩ := elems_index (h.B_lt h2) h2
    exact H a (h.B_lt' h1) q hq c (h.B_lt' h2) q' hq'
  · intro H a _ q hq c _ q' hq'
    exact H a _ c _ (elems_getD hq).2 (elems_getD hq').2
theorem seTwoTwo_ev {n : Nat} {l : List Int} (o : Ord n l) : EvP (fun k => spec_seTwoTwo.f k (n : Int) l) (fun r => r = false) (∀ a, a < n → ∀ b, b < n → ∀ c, c < n → ∀ d, d < n → hit22 l a b c d = false) := by
  have h := o.toRel
  have hn := h.le
  have hlen := h.len
  unfold spec_seTwoTwo.f
  have same : (∀ a b c d, B l a b = true → B l c d = true → (free l a d && free l c b) = false) ↔ ∀ a, a < n → ∀ b, b < n → ∀ c, c < n → ∀ d, d < n → hit22 l a b c d = false := by
    constructor
    · intro H a _ b _ c _ d _
      rw [hit22_same o]
      unfold hit22s
      cases h1 : B l a b with
      | false => rfl
      | true =>
        cases h2 : B l c d with
        | false => rfl
        | true => rw [Bool.true_and, Bool.true_and]; exact H a b c d h1 h2
    · intro H a b c d h1 h2
      have := H a (h.B_lt' h1) b (h.B_lt h1) c (h.B_lt' h2) d (h.B_lt h2)
      rw [hit22_same o] at this
      unfold hit22s at this
      rwa [h1, h2, Bool.true_and, Bool.true_and] at this
  refine EvP.iff (EvP.loop (fun a k => spec_seTwoTwo.l0 k (a : Int) (n : Int) l) n (fun a => ∀ q, q < (elems n (row l a)).length → ∀ c, c < n → ∀ q', q' < (elems n (row l c)).length → (free l a ((elems n (row l c)).getD q' 0) && free l c ((elems n (row l a)).getD q 0)) = false) True ?_ ?_) (by rw [and_true]; exact (over_pairs h (fun a b c d => (free l a d && free l c b) = false)).trans same)
  · intro a T ha next
    refine EvP.step (fun _ => rfl) ?_
    simp only [spec_seTwoTwo.l0, if_pos (show (a : Int) < (n : Int) by omega), if_pos (show (0 : Int) ≤ (a : Int) by omega), hlen, h.rd]
    refine EvP.bind (orList_ev n (by omega) _ (h.row_lt a)) ?_
    have hE := elems_length_le n (row l a)
    rw [ints_length]
    refine EvP.loop (fun q k => spec_seTwoTwo.l1 k (a : Int) (ints (elems n (row l a))) ((elems n (row l a)).length : Int) (q : Int) (n : Int) l) (elems n (row l a)).length (fun q => ∀ c, c < n → ∀ q', q' < (elems n (row l c)).length → (free l a ((elems n (row l c)).getD q' 0) && free l c ((elems n (row l a)).getD q 0)) = false) T ?_ ?_
    · intro q T hq next
      obtain ⟨hb, _⟩ := elems_getD hq
      refine EvP.step (fun _ => rfl) ?_
      simp only [spec_seTwoTwo.l1, if_pos (show (q : Int) < ((elems n (row l a)).length : Int) by omega), if_pos (show (0 : Int) ≤ (q : Int) by omega), ints_length, ints_rd _ _ hq]
      generalize (elems n (row l a)).getD q 0 = b at hb next ⊢
      refine EvP.loop (fun c k => spec_seTwoTwo.l2 k (a : Int) (b : Int) (c : Int) (ints (elems n (row l a))) ((elems n (row l a)).length : Int) (q : Int) (n : Int) l) n (fun c => ∀ q', q' < (elems n (row l c)).length → (free l a ((elems n (row l c)).getD q' 0) && free l c b) = false) T ?_ ?_
      · intro c T hc next
        refine EvP.step (fun _ => rfl) ?_
        simp only [spec_seTwoTwo.l2, if_pos (show (c : Int) < (n : Int) by omega), if_pos (show (0 : Int) ≤ (c : Int) by omega), hlen, h.rd]
        refine EvP.bind (orList_ev n (by omega) _ (h.row_lt c)) ?_
        have hE' := elems_length_le n (row l c)
        rw [ints_length]
        refine EvP.loop (fun q' k => spec_seTwoTwo.l3 k (a : Int) (b : Int) (c : Int) (ints (elems n (row l a))) ((elems n (row l a)).length : Int) (q : Int) (ints (elems n (row l c))) ((elems n (row l c)).length : Int) (q' : Int) (n : Int) l) (elems n (row l c)).length (fun q' => (free l a ((elems n (row l c)).getD q' 0) && free l c b) = false) T ?_ ?_
        · intro q' T hq' next
          obtain ⟨hd, _⟩ := elems_getD hq'
          refine EvP.step (fun _ => rfl) ?_
          simp only [spec_seTwoTwo.l3, if_pos (show (q' : Int) < ((elems n (row l c)).length : Int) by omega), if_pos (show (0 : Int) ≤ (q' : Int) by omega), ints_length, ints_rd _ _ hq', next64 q' _ hq' (by omega)]
          generalize (elems n (row l c)).getD q' 0 = d at hd next ⊢
          refine EvP.bind (seIndifferent_ev h a d ha hd) ?_
          cases f1 : free l a d with
          | false => simp only [Bool.false_eq_true, if_false, Bool.false_and]; exact EvP.iff next (by simp)
          | true =>
            simp only [if_true, Bool.true_and]
            refine EvP.bind (seIndifferent_ev h c b hc hb) ?_
            cases f2 : free l c b with
            | false => simp only [Bool.false_eq_true, if_false]; exact EvP.iff next (by simp)
            | true => simp only [if_true]; exact EvP.now (by simp)
        · refine EvP.step (fun _ => rfl) ?_
          simp only [spec_seTwoTwo.l3, if_neg (show ¬ ((elems n (row l c)).length : Int) < ((elems n (row l c)).length : Int) by omega), next64 c n hc (by omega)]
          exact next
      · refine EvP.step (fun _ => rfl) ?_
        simp only [spec_seTwoTwo.l2, if_neg (show ¬ (n : Int) < (n : Int) by omega), next64 q _ hq (by omega)]
        exact next
    · refine EvP.step (fun _ => rfl) ?_
      simp only [spec_seTwoTwo.l1, if_neg (show ¬ ((elems n (row l a)).length : Int) < ((elems n (row l a)).length : Int) by omega), next64 a n ha (by omega)]
      exact next
  · refine EvP.step (fun _ => rfl) ?_
    simp only [spec_seTwoTwo.l0, if_neg (show ¬ (n : Int) < (n : Int) by omega)]
    exact EvP.now (by simp)
theorem seGood_ev (n : Int) (l : List Int) (hl : l.length ≤ 140737488355328) : Ev (fun k => spec_seGood.f k n l) (isSemi n l) := by
  unfold spec_seGood.f spec_ThreeOneOf.f isSemi
  cases ho : isOrd n l with
  | false =>
    refine Ev.bind (a := (([] : List Int), false)) (Ev.bind (orGood_ev n l hl) (by rw [ho]; simp only [Bool.false_eq_true, if_false]; exact Ev.now _)) ?_
    refine Ev.bind (orGood_ev n l hl) ?_
    rw [ho]
    simp only [Bool.false_eq_true, if_false, Bool.false_and]
    exact Ev.now _
  | true =>
    have ho' := ho
    obtain ⟨n, rfl, o⟩ := isOrd_iff.1 ho
    obtain ⟨r, hr, e⟩ := sThreeOne_ev o.toRel
    refine Ev.bind (a := r) (Ev.bind (orGood_ev n l hl) (by rw [ho']; simp only [if_true]; exact hr)) ?_
    refine Ev.bind (orGood_ev n l hl) ?_
    rw [ho']
    simp only [if_true, Bool.true_and, Int.toNat_natCast]
    have e31 : no31 n l = true ↔ r.2 = false := no31_iff.trans e.symm
    cases hb : r.2 with
    | true =>
      simp only [if_true]
      refine Ev.to (Ev.now _) ?_
      cases h31 : no31 n l with
      | false => simp
      | true => rw [e31.1 h31] at hb; cases hb
    | false =>
      simp only [Bool.false_eq_true, if_false]
      rw [e31.2 hb, Bool.and_true]
      obtain ⟨t, ht, e2⟩ := seTwoTwo_ev o
      refine Ev.bind ht (Ev.to (Ev.now _) ?_)
      rw [Bool.eq_iff_iff, Bool.not_eq_true', no22_iff]
      exact e2
end Go.Proofs.YtimjblnglhmakaaDoor.M
namespace Go.Proofs.YtimjblnglhmakaaDoor.M
def srt (l : List Int) : List Int := l.mergeSort fun x y => decide (x ≤ y)
theorem srt_perm (l : List Int) : (srt l).Perm l := List.mergeSort_perm _ _
theorem srt_sorted (l : List Int) : (srt l).Pairwise (· ≤ ·) := by
  have h := List.pairwise_mergeSort (le := fun (x y : Int) => decide (x ≤ y)) (by intro a b c h1 h2; simp only [decide_eq_true_iff] at *; omega) (by intro a b; simp only [Bool.or_eq_true, decide_eq_true_iff]; omega) l
  exact h.imp (fun h => of_decide_eq_true h)
def put (T : List Nat) (k i : Nat) : List Nat := T.take k ++ i :: T.drop k
def ins (x : Int) : List Int → List Int
  | [] => [x]
  | y :: l => if y < x then y :: ins x l else if y = x then y :: l else x :: y :: l
def Inc (l : List Int) : Prop := l.Pairwise (· < ·)
theorem mem_ins (x y : Int) (l : List Int) : y ∈ ins x l ↔ y = x ∨ y ∈ l := by
  induction l with
  | nil => simp [ins]
  | cons z l ih =>
    unfold ins
    split
    · rw [List.mem_cons, ih, List.mem_cons]
      constructor
      · rintro (h | h | h)
        · exact .inr (.inl h)
        · exact .inl h
        · exact .inr (.inr h)
      · rintro (h | h | h)
        · exact .inr (.inl h)
        · exact .inl h
        · exact .inr (.inr h)
    · split
      · rename_i h1 h2
        rw [List.mem_cons]
        constructor
        · exact .inr
        · rintro (h | h)
          · exact .inl (h.trans h2.symm)
          · exact h
      · rw [List.mem_cons]
theorem inc_ins (x : Int) (l : List Int) (h : Inc l) : Inc (ins x l) := by
  induction l with
  | nil => simp [ins, Inc]
  | cons z l ih =>
    have h' := List.pairwise_cons.1 h
    unfold ins
    split
    · rename_i hz
      refine List.pairwise_cons.2 ⟨fun y hy => ?_, ih h'.2⟩
      rcases (mem_ins x y l).1 hy with rfl | hy
      · exact hz
      · exact h'.1 y hy
    · split
      · exact h
      · rename_i h1 h2
        refine List.pairwise_cons.2 ⟨fun y hy => ?_, h⟩
        rcases List.mem_cons.1 hy with rfl | hy
        · omega
        · have := h'.1 y hy; omega
def dif (l : List Int) : List Int := l.foldl (fun acc x => ins x acc) []
theorem dif_foldl (l acc : List Int) (h : Inc acc) : Inc (l.foldl (fun acc x => ins x acc) acc) ∧ ∀ y, y ∈ l.foldl (fun acc x => ins x acc) acc ↔ y ∈ acc ∨ y ∈ l := by
  induction l generalizing acc with
  | nil => exact ⟨h, fun y => by simp⟩
  | cons x l ih =>
    obtain ⟨h1, h2⟩ := ih (ins x acc) (inc_ins x acc h)
    refine ⟨h1, fun y => (h2 y).trans ?_⟩
    rw [mem_ins, List.mem_cons]
    constructor
    · rintro ((h | h) | h)
      · exact .inr (.inl h)
      · exact .inl h
      · exact .inr (.inr h)
    · rintro (h | h | h)
      · exact .inl (.inr h)
      · exact .inl (.inl h)
      · exact .inr h
theorem dif_inc (l : List Int) : Inc (dif l) := (dif_foldl l [] List.Pairwise.nil).1
theorem mem_dif (l : List Int) (y : Int) : y ∈ dif l ↔ y ∈ l := by
  have := (dif_foldl l [] List.Pairwise.nil).2 y
  unfold dif
  simpa using this
theorem inc_nodup {l : List Int} (h : Inc l) : l.Nodup := h.imp (fun h => by omega)
theorem inc_ext {l l' : List Int} (h : Inc l) (h' : Inc l') (hm : ∀ y, y ∈ l ↔ y ∈ l') : l = l' :=
  List.Perm.eq_of_pairwise (fun _ _ _ _ h1 h2 => by omega) h h' ((List.perm_ext_iff_of_nodup (inc_nodup h) (inc_nodup h')).2 hm)
theorem dif_length_le (l : List Int) : (dif l).length ≤ l.length := by
  have : ∀ (l acc : List Int), (l.foldl (fun acc x => ins x acc) acc).length ≤ acc.length + l.length := by
    intro l
    induction l with
    | nil => intro acc; simp
    | cons x l ih =>
      intro acc
      have h1 := ih (ins x acc)
      have h2 : (ins x acc).length ≤ acc.length + 1 := by
        clear h1 ih
        induction acc with
        | nil => simp [ins]
        | cons y acc ih => unfold ins; split <;> (try split) <;> simp <;> omega
      simp only [List.foldl_cons, List.length_cons]
      omega
  unfold dif
  simpa using this l []
def rank (l : List Int) (x : Int) : Nat := (dif l).countP fun y => decide (y < x)
theorem inc_place {l : List Int} (h : Inc l) (k : Nat) (hk : k < l.length) : l.countP (fun y => decide (y < l[k])) = k := by
  have hp := List.pairwise_iff_getElem.1 h
  have e : l = l.take k ++ l.drop k := (List.take_append_drop k l).symm
  have h1 : (l.take k).countP (fun y => decide (y < l[k])) = (l.take k).length := by
    rw [List.countP_eq_length]
    intro y hy
    obtain ⟨j, hj, rfl⟩ := List.mem_iff_getElem.1 hy
    rw [List.length_take] at hj
    rw [List.getElem_take, decide_eq_true_iff]
    exact hp j k (by omega) hk (by omega)
  have h2 : (l.drop k).countP (fun y => decide (y < l[k])) = 0 := by
    rw [List.countP_eq_zero]
    intro y hy
    obtain ⟨j, hj, rfl⟩ := List.mem_iff_getElem.1 hy
    rw [List.length_drop] at hj
    rw [List.getElem_drop, decide_eq_true_iff]
    by_cases h0 : j = 0
    · subst h0; simp
    · have := hp k (k + j) hk (by omega) (by omega); omega
  calc l.countP (fun y => decide (y < l[k])) = (l.take k ++ l.drop k).countP (fun y => decide (y < l[k])) := by rw [List.take_append_drop]
    _ = k := by rw [List.countP_append, h1, h2, List.length_take]; omega
theorem rank_at (l : List Int) (k : Nat) (hk : k < (dif l).length) : rank l (dif l)[k] = k := inc_place (dif_inc l) k hk
theorem rank_lt {l : List Int} {x : Int} (h : x ∈ l) : ∃ hk : rank l x < (dif l).length, (dif l)[rank l x] = x := by
  obtain ⟨k, hk, e⟩ := List.mem_iff_getElem.1 ((mem_dif l x).2 h)
  have := rank_at l k hk
  rw [e] at this
  exact ⟨by omega, by simp only [this]; exact e⟩
theorem dif_map {α : Type} (L : List α) (f g : α → Int) (h : ∀ x ∈ L, ∀ y ∈ L, f x < f y ↔ g x < g y) (x : α) (hx : x ∈ L) : rank (L.map f) (f x) = rank (L.map g) (g x) := by
  have key : ∀ (f g : α → Int), (∀ x ∈ L, ∀ y ∈ L, f x < f y ↔ g x < g y) → rank (L.map f) (f x) ≤ rank (L.map g) (g x) := by
    intro f g h
    have hsub : ∀ (M : List Int), Inc M → (∀ z ∈ M, z ∈ L.map f ∧ z < f x) → M.length ≤ rank (L.map g) (g x) := by
      intro M hM hz
      -- the g's of the members of M, in order
      have : ∃ N : List Int, N.length = M.length ∧ Inc N ∧ ∀ z ∈ N, z ∈ L.map g ∧ z < g x := by
        have step : ∀ (M : List Int), Inc M → (∀ z ∈ M, z ∈ L.map f ∧ z < f x) → ∃ N : List α, N.map f = M ∧ (∀ z ∈ N, z ∈ L ∧ f z < f x) := by
          intro M
          induction M with
          | nil => intro _ _; exact ⟨[], rfl, by simp⟩
          | cons m M ih =>
            intro hM hz
            obtain ⟨N, e, hN⟩ := ih (List.pairwise_cons.1 hM).2 fun z hzM => hz z (List.mem_cons_of_mem _ hzM)
            obtain ⟨h1, h2⟩ := hz m List.mem_cons_self
            obtain ⟨a, ha, rfl⟩ := List.mem_map.1 h1
            refine ⟨a :: N, by rw [List.map_cons, e], fun z hzN => ?_⟩
            rcases List.mem_cons.1 hzN with rfl | hzN
            · exact ⟨ha, h2⟩
            · exact hN z hzN
        obtain ⟨N, e, hN⟩ := step M hM hz
        refine ⟨N.map g, by rw [← e]; simp, ?_, ?_⟩
        · rw [Inc, ← e] at hM
          have hM : N.Pairwise fun a b => f a < f b := List.pairwise_map.1 hM
          refine List.pairwise_map.2 (List.Pairwise.imp_of_mem (fun ha hb hab => ?_) hM)
          exact (h _ (hN _ ha).1 _ (hN _ hb).1).1 hab
        · intro z hz
          obtain ⟨a, ha, rfl⟩ := List.mem_map.1 hz
          exact ⟨List.mem_map_of_mem (hN a ha).1, (h _ (hN a ha).1 _ hx).1 (hN a ha).2⟩
      obtain ⟨N, e, hN, hz⟩ := this
      rw [← e]
      have hs : N.Nodup := inc_nodup hN
      have hf : ((dif (L.map g)).filter fun y => decide (y < g x)).Nodup := List.Nodup.sublist List.filter_sublist (inc_nodup (dif_inc _))
      have : N.Subset ((dif (L.map g)).filter fun y => decide (y < g x)) := by
        intro z hzN
        rw [List.mem_filter, mem_dif, decide_eq_true_iff]
        exact hz z hzN
      unfold rank
      rw [List.countP_eq_length_filter]
      exact List.Nodup.length_le_of_subset hs this
    unfold rank
    rw [List.countP_eq_length_filter]
    refine hsub _ ((dif_inc _).sublist List.filter_sublist) fun z hz => ?_
    rw [List.mem_filter, mem_dif, decide_eq_true_iff] at hz
    exact hz
  exact Nat.le_antisymm (key f g h) (key g f fun a ha b hb => (h a ha b hb).symm)
theorem compact_srt (l : List Int) : Lib.compact (srt l) = dif l := by
  have hs := srt_sorted l
  have hp := List.pairwise_iff_getElem.1 hs
  have hg : ∀ j (hj : j < (srt l).length), (srt l).toArray[j]! = (srt l)[j] := by intro j hj; simp [hj]
  refine inc_ext ?_ (dif_inc l) fun y => ?_
  · unfold Lib.compact Lib.compactUpTo Inc
    rw [List.pairwise_map]
    refine List.Pairwise.imp_of_mem (R := fun a b => a < b) (fun {a b} ha hb hab => ?_) (List.pairwise_lt_range.sublist List.filter_sublist)
    rw [List.mem_filter, List.mem_range] at ha hb
    have hk := hb.2
    unfold Lib.keeps at hk
    rw [decide_eq_true_iff] at hk
    have hk := hk.resolve_left (by omega)
    rw [hg a ha.1, hg b hb.1]
    rw [hg b hb.1, hg (b - 1) (by omega)] at hk
    have h1 := hp (b - 1) b (by omega) hb.1 (by omega)
    by_cases hab' : a = b - 1
    · subst hab'; omega
    · have := hp a (b - 1) ha.1 (by omega) (by omega); omega
  · rw [mem_dif, ← (srt_perm l).mem_iff]
    unfold Lib.compact Lib.compactUpTo
    rw [List.mem_map]
    constructor
    · rintro ⟨j, hj, rfl⟩
      rw [List.mem_filter, List.mem_range] at hj
      rw [hg j hj.1]
      exact List.getElem_mem _
    · intro hy
      obtain ⟨j, hj, e⟩ := List.mem_iff_getElem.1 hy
      induction j using Nat.strongRecOn with
      | _ j ih =>
        by_cases h0 : j = 0 ∨ (srt l)[j] ≠ (srt l)[j - 1]'(by omega)
        · refine ⟨j, ?_, by rw [hg j hj]; exact e⟩
          rw [List.mem_filter, List.mem_range]
          refine ⟨hj, ?_⟩
          unfold Lib.keeps
          rw [decide_eq_true_iff, hg j hj, hg (j - 1) (by omega)]
          exact h0
        · have h1 : ¬ j = 0 := fun h => h0 (.inl h)
          have h2 : (srt l)[j] = (srt l)[j - 1]'(by omega) := Decidable.byContradiction fun h => h0 (.inr h)
          exact ih (j - 1) (by omega) (by omega) (by rw [← h2]; exact e)
end Go.Proofs.YtimjblnglhmakaaDoor.M
namespace Go.Proofs.YtimjblnglhmakaaDoor.M
open Go.RowKit Go.Proofs.YtimjblnglhmakaaDoorW.PrintMore Go.Proofs.YtimjblnglhmakaaDoorW.PrintLast Go.Proofs.YtimjblnglhmakaaDoorW.PrintWords Go.Proofs.YtimjblnglhmakaaDoor.P
set_option maxRecDepth 4000
theorem elems_setOf (n : Nat) (p : Nat → Bool) : (elems n (setOf n p)).length = cnt n p := by
  unfold elems cnt
  congr 1
  apply List.filter_congr
  intro j hj
  rw [testBit_setOf, decide_eq_true (List.mem_range.1 hj), Bool.true_and]
def abv (n : Nat) (l : List Int) (i : Nat) : Nat := cnt n fun k => B l i k
theorem elems_row {n : Nat} {l : List Int} (i : Nat) : (elems n (row l i)).length = abv n l i := rfl
theorem seMany_ev {n s : Nat} (hn : n ≤ 10) (h : s < 2 ^ n) : Ev (fun k => spec_seMany.f k (s : Int)) (((elems n s).length : Nat) : Int) := by
  unfold spec_seMany.f
  refine Ev.bind (orList_ev n (by omega) s h) ?_
  rw [ints_length]
  exact Ev.now _
theorem isSemi_ord {n : Int} {l : List Int} (h : isSemi n l = true) : isOrd n l = true := by
  unfold isSemi at h
  rw [Bool.and_eq_true] at h
  exact h.1
end Go.Proofs.YtimjblnglhmakaaDoor.M
namespace Go.Proofs.YtimjblnglhmakaaDoor.M
open Go.RowKit Go.Proofs.YtimjblnglhmakaaDoorW.PrintMore Go.Proofs.YtimjblnglhmakaaDoorW.PrintLast Go.Proofs.YtimjblnglhmakaaDoorW.PrintWords Go.Proofs.YtimjblnglhmakaaDoor.P
theorem diff_le {a b : Nat} (h : diff a b = 0) : a ≤ b := by
  have e : a &&& b = a := by
    apply Nat.eq_of_testBit_eq
    intro j
    rw [Nat.testBit_and]
    cases hj : a.testBit j with
    | false => simp
    | true => rw [(diff_zero a b).1 h j hj]; rfl
  have := Nat.and_le_right (n := a) (m := b)
  omega
def level (sets : List Int) (own : Nat) : Nat := sets.countP fun s => decide (s ≠ (own : Int) ∧ diff s.toNat own = 0)
theorem levels_rank (n : Nat) (low : Nat → Nat) (x : Nat → Int) (h1 : ∀ i j, i < n → j < n → x i < x j → diff (low i) (low j) = 0 ∧ low i ≠ low j) (h2 : ∀ i j, i < n → j < n → x i = x j → low i = low j) (j : Nat) (hj : j < n) :
    level (dif ((List.range n).map fun i => ((low i : Nat) : Int))) (low j) = rank ((List.range n).map x) (x j) := by
  have key : ∀ i, i < n → ∀ j, j < n → (((low i : Nat) : Int) < ((low j : Nat) : Int) ↔ x i < x j) := by
    intro i hi j hj
    constructor
    · intro h
      rcases Int.lt_trichotomy (x i) (x j) with h3 | h3 | h3
      · exact h3
      · have := h2 i j hi hj h3; omega
      · have := diff_le (h1 j i hj hi h3).1; omega
    · intro h
      have := h1 i j hi hj h
      have h3 := diff_le this.1
      have h4 := this.2
      omega
  rw [← dif_map (List.range n) (fun i => ((low i : Nat) : Int)) x (fun a ha b hb => key a (List.mem_range.1 ha) b (List.mem_range.1 hb)) j (List.mem_range.2 hj)]
  unfold level rank
  apply List.countP_congr
  intro s hs
  rw [mem_dif, List.mem_map] at hs
  obtain ⟨i, hi, rfl⟩ := hs
  have hi := List.mem_range.1 hi
  rw [decide_eq_true_iff, decide_eq_true_iff]
  constructor
  · rintro ⟨a, b⟩
    have := diff_le b
    rw [Int.toNat_natCast] at this
    omega
  · intro h
    obtain ⟨a, b⟩ := h1 i j hi hj ((key i hi j hj).1 h)
    refine ⟨by omega, by rw [Int.toNat_natCast]; exact a⟩
end Go.Proofs.YtimjblnglhmakaaDoor.M
namespace Go.Proofs.YtimjblnglhmakaaDoor.M
open Go.RowKit Go.Proofs.YtimjblnglhmakaaDoorW.PrintMore Go.Proofs.YtimjblnglhmakaaDoorW.PrintLast Go.Proofs.YtimjblnglhmakaaDoorW.PrintWords Go.Proofs.YtimjblnglhmakaaDoor.P
set_option maxRecDepth 4000
theorem ins_at (x : Int) (l : List Int) (p : Nat) (hp : p ≤ l.length) (h1 : ∀ j, j < p → l.getD j 0 < x) (h2 : p < l.length → ¬ l.getD p 0 < x) : ins x l = if p < l.length ∧ l.getD p 0 = x then l else l.take p ++ x :: l.drop p := by
  induction l generalizing p with
  | nil =>
    obtain rfl : p = 0 := by simpa using hp
    simp [ins]
  | cons y l ih =>
    cases p with
    | zero =>
      have h2 := h2 (by simp)
      simp only [List.getD_cons_zero] at h2
      unfold ins
      rw [if_neg h2]
      simp
    | succ p =>
      have hy : y < x := by simpa using h1 0 (by omega)
      unfold ins
      rw [if_pos hy, ih p (by simpa using hp) (fun j hj => by simpa using h1 (j + 1) (by omega)) (fun hlt => by simpa using h2 (by simpa using hlt))]
      by_cases hc : p < l.length ∧ l.getD p 0 = x
      · rw [if_pos hc, if_pos (by simpa using hc)]
      · rw [if_neg hc, if_neg (by simpa using hc)]
        simp
theorem l1Put_ev (l : List Int) (x : Int) (hl : l.length ≤ 1048576) : Ev (fun k => spec_l1Put.f k l x) (ins x l) := by
  unfold spec_l1Put.f
  have key : ∀ m p, p + m = l.length → (∀ j, j < p → l.getD j 0 < x) → Ev (fun k => spec_l1Put.l0 k l x (p : Int)) (ins x l) := by
    intro m
    induction m with
    | zero =>
      intro p hp h1
      have e := ins_at x l p (by omega) h1 (fun h => by omega)
      rw [if_neg (fun h => by omega)] at e
      rw [e]
      refine Ev.step (fun _ => rfl) ?_
      simp only [spec_l1Put.l0, if_neg (show ¬ (p : Int) < (l.length : Int) by omega), if_pos (show (0 : Int) ≤ (p : Int) by omega), if_pos (show (p : Int) ≤ (l.length : Int) by omega), Option.bind_some, Int.toNat_natCast, List.nil_append, List.length_nil, List.length_append, List.length_take, List.length_drop, List.length_singleton,
        if_pos (show 0 + min p l.length < 17592186044416 by omega), if_pos (show 0 + min p l.length + 1 + (l.length - p) < 17592186044416 by omega)]
      exact Ev.to (Ev.now _) (by simp)
    | succ m ih =>
      intro p hp h1
      refine Ev.step (fun _ => rfl) ?_
      by_cases c : l.getD p 0 < x
      · simp only [spec_l1Put.l0, if_pos (show (p : Int) < (l.length : Int) by omega), if_pos (show (0 : Int) ≤ (p : Int) by omega), rd_nat, if_pos c, next64 p l.length (by omega) (by omega)]
        refine ih (p + 1) (by omega) fun j hj => ?_
        by_cases e : j = p
        · rw [e]; exact c
        · exact h1 j (by omega)
      · have e := ins_at x l p (by omega) h1 (fun _ => c)
        by_cases c2 : l.getD p 0 = x
        · rw [if_pos ⟨by omega, c2⟩] at e
          rw [e]
          simp only [spec_l1Put.l0, if_pos (show (p : Int) < (l.length : Int) by omega), if_pos (show (0 : Int) ≤ (p : Int) by omega), rd_nat, if_neg c, if_pos c2]
          exact Ev.now _
        · rw [if_neg (fun h => c2 h.2)] at e
          rw [e]
          simp only [spec_l1Put.l0, if_pos (show (p : Int) < (l.length : Int) by omega), if_pos (show (0 : Int) ≤ (p : Int) by omega), rd_nat, if_neg c, if_neg c2, if_pos (show (p : Int) ≤ (l.length : Int) by omega), Option.bind_some, Int.toNat_natCast, List.nil_append, List.length_nil, List.length_append, List.length_take, List.length_drop, List.length_singleton,
            if_pos (show 0 + min p l.length < 17592186044416 by omega), if_pos (show 0 + min p l.length + 1 + (l.length - p) < 17592186044416 by omega)]
          exact Ev.to (Ev.now _) (by simp)
  exact key l.length 0 (by omega) (fun j hj => by omega)
theorem orPlace_ev (l : List Int) (x : Int) (r : Nat) (hr : r < l.length) (hl : l.length ≤ 1048576) (h : l.getD r 0 = x) (h1 : ∀ j, j < r → l.getD j 0 ≠ x) : Ev (fun k => spec_orPlace.f k l x) ((r : Nat) : Int) := by
  unfold spec_orPlace.f
  refine Ev.up (fun j k => spec_orPlace.l0 k x l (l.length : Int) (j : Int)) r ?_ ?_
  · intro j hj next
    refine Ev.step (fun _ => rfl) ?_
    simp only [spec_orPlace.l0, if_pos (show (j : Int) < (l.length : Int) by omega), if_pos (show (0 : Int) ≤ (j : Int) by omega), rd_nat, if_neg (h1 j hj), next64 j r hj (by omega)]
    exact next
  · refine Ev.step (fun _ => rfl) ?_
    simp only [spec_orPlace.l0, if_pos (show (r : Int) < (l.length : Int) by omega), if_pos (show (0 : Int) ≤ (r : Int) by omega), rd_nat, if_pos h]
    exact Ev.now _
def ranks (zs : List Int) : List Int := zs.map fun x => ((rank zs x : Nat) : Int)
theorem rank_place {zs : List Int} {x : Int} (h : x ∈ zs) : rank zs x < (dif zs).length ∧ (dif zs).getD (rank zs x) 0 = x ∧ ∀ j, j < rank zs x → (dif zs).getD j 0 ≠ x := by
  obtain ⟨hk, e⟩ := rank_lt h
  refine ⟨hk, by rw [List.getD_eq_getElem?_getD, List.getElem?_eq_getElem hk, Option.getD_some]; exact e, fun j hj => ?_⟩
  have := List.pairwise_iff_getElem.1 (dif_inc zs) j (rank zs x) (by omega) hk hj
  rw [List.getD_eq_getElem?_getD, List.getElem?_eq_getElem (by omega), Option.getD_some]
  rw [e] at this
  omega
theorem take_next {zs : List Int} (i : Nat) (hi : i < zs.length) : zs.take (i + 1) = zs.take i ++ [zs.getD i 0] := by rw [List.take_add_one]; simp [hi]
theorem weOfNumbers_ev (zs : List Int) (hl : zs.length ≤ 1048576) : Ev (fun k => spec_weOfNumbers.f k zs) (ranks zs) := by
  unfold spec_weOfNumbers.f
  have hd := dif_length_le zs
  have second : Ev (fun k => spec_weOfNumbers.l1 k (dif zs) ([] : List Int) zs (zs.length : Int) 0) (ranks zs) := by
    refine Ev.to (Ev.up (r := (zs.take zs.length).map fun x => ((rank zs x : Nat) : Int)) (fun i k => spec_weOfNumbers.l1 k (dif zs) ((zs.take i).map fun x => ((rank zs x : Nat) : Int)) zs (zs.length : Int) (i : Int)) zs.length ?_ ?_) (by rw [List.take_length]; rfl)
    · intro i hi next
      obtain ⟨p1, p2, p3⟩ := rank_place (zs := zs) (x := zs.getD i 0) (by simp [hi])
      refine Ev.step (fun _ => rfl) ?_
      simp only [spec_weOfNumbers.l1, if_pos (show (i : Int) < (zs.length : Int) by omega), if_pos (show (0 : Int) ≤ (i : Int) by omega), rd_nat]
      refine Ev.bind (orPlace_ev (dif zs) (zs.getD i 0) _ p1 (by omega) p2 p3) ?_
      simp only [List.length_map, List.length_take, if_pos (show min i zs.length < 17592186044416 by omega), next64 i zs.length hi (by omega)]
      rw [take_next i hi, List.map_append] at next
      exact next
    · refine Ev.step (fun _ => rfl) ?_
      simp only [spec_weOfNumbers.l1, if_neg (show ¬ (zs.length : Int) < (zs.length : Int) by omega)]
      exact Ev.now _
  have first : Ev (fun k => spec_weOfNumbers.l0 k zs (dif (zs.take 0)) zs (zs.length : Int) ((0 : Nat) : Int)) (ranks zs) := by
    refine Ev.up (fun i k => spec_weOfNumbers.l0 k zs (dif (zs.take i)) zs (zs.length : Int) (i : Int)) zs.length ?_ ?_
    · intro i hi next
      have hd2 := dif_length_le (zs.take i)
      rw [List.length_take] at hd2
      refine Ev.step (fun _ => rfl) ?_
      simp only [spec_weOfNumbers.l0, if_pos (show (i : Int) < (zs.length : Int) by omega), if_pos (show (0 : Int) ≤ (i : Int) by omega), rd_nat]
      refine Ev.bind (l1Put_ev _ _ (by omega)) ?_
      simp only [next64 i zs.length hi (by omega)]
      have e : dif (zs.take (i + 1)) = ins (zs.getD i 0) (dif (zs.take i)) := by
        rw [take_next i hi]
        unfold dif
        rw [List.foldl_append]
        rfl
      rw [e] at next
      exact next
    · refine Ev.step (fun _ => rfl) ?_
      simp only [spec_weOfNumbers.l0, if_neg (show ¬ (zs.length : Int) < (zs.length : Int) by omega), List.take_length]
      exact second
  exact first
theorem different_eq (l : List Int) (h : l.length ≤ 1048576) : impl_different.f l = some (dif l) := by
  unfold impl_different.f
  rw [if_pos (by omega), show HD.srt l = srt l from rfl, compact_srt]
theorem Rel.rows {n : Nat} {l : List Int} (h : Rel n l) : l = (List.range n).map fun i => ((row l i : Nat) : Int) := by
  refine list_ext_getD (by rw [h.len]; simp) fun i hi => ?_
  rw [h.len] at hi
  rw [h.getD]
  simp [hi]
def levelsL (n : Nat) (m : List Int) : List Int := (List.range n).map fun j => ((level (dif m) (row m j) : Nat) : Int)
theorem level_snoc (L : List Int) (s : Int) (own : Nat) : level (L ++ [s]) own = level L own + if s ≠ (own : Int) ∧ diff s.toNat own = 0 then 1 else 0 := by
  unfold level
  rw [List.countP_append, List.countP_singleton]
  simp only [decide_eq_true_iff]
theorem level_le (L : List Int) (own : Nat) : level L own ≤ L.length := List.countP_le_length
theorem levels_ev {n : Nat} {l : List Int} (h : Rel n l) : Ev (fun k => impl_Order_levels.f k (n : Int) l) (levelsL n (mir n l)) := by
  have hn := h.le
  have hm := mir_rel h
  have hd := dif_length_le (mir n l)
  rw [hm.len] at hd
  unfold impl_Order_levels.f
  refine Ev.bind (mirror_ev h) ?_
  simp only [different_eq (mir n l) (by rw [hm.len]; omega), Option.bind_some, hm.len]
  refine Ev.up (fun j k => impl_Order_levels.l0 k ((List.range j).map fun j => ((level (dif (mir n l)) (row (mir n l) j) : Nat) : Int)) (dif (mir n l)) (mir n l) (n : Int) (j : Int)) n ?_ ?_
  · intro j hj next
    refine Ev.step (fun _ => rfl) ?_
    simp only [impl_Order_levels.l0, if_pos (show (j : Int) < (n : Int) by omega), if_pos (show (0 : Int) ≤ (j : Int) by omega), hm.len, hm.rd]
    refine Ev.up (fun q k => impl_Order_levels.l1 k ((List.range j).map fun j => ((level (dif (mir n l)) (row (mir n l) j) : Nat) : Int)) (dif (mir n l)) ((row (mir n l) j : Nat) : Int) ((level ((dif (mir n l)).take q) (row (mir n l) j) : Nat) : Int) (mir n l) (n : Int) (j : Int) (dif (mir n l)) ((dif (mir n l)).length : Int) (q : Int)) (dif (mir n l)).length ?_ ?_
    · intro q hq next
      obtain ⟨i, hi, hs⟩ : ∃ i, i < n ∧ (dif (mir n l)).getD q 0 = ((row (mir n l) i : Nat) : Int) := by
        have hmem : (dif (mir n l)).getD q 0 ∈ dif (mir n l) := by simp [hq]
        rw [mem_dif] at hmem
        rw [hm.rows] at hmem
        obtain ⟨i, hi, e⟩ := List.mem_map.1 hmem
        exact ⟨i, List.mem_range.1 hi, by rw [← hm.rows] at e; exact e.symm⟩
      have hlv := level_le ((dif (mir n l)).take q) (row (mir n l) j)
      rw [List.length_take] at hlv
      rw [take_next q hq, level_snoc, hs, Int.toNat_natCast] at next
      refine Ev.step (fun _ => rfl) ?_
      simp only [impl_Order_levels.l1, if_pos (show (q : Int) < ((dif (mir n l)).length : Int) by omega), if_pos (show (0 : Int) ≤ (q : Int) by omega), rd_nat, hs, andNot_i64 _ _ (hm.row_62 i) (hm.row_62 j), next64 q _ hq (by omega)]
      by_cases c : row (mir n l) i = row (mir n l) j
      · rw [if_neg (fun h => h.1 (by omega))] at next
        simp only [if_pos (show ((row (mir n l) i : Nat) : Int) = ((row (mir n l) j : Nat) : Int) by omega)]
        exact next
      · simp only [if_neg (show ¬ ((row (mir n l) i : Nat) : Int) = ((row (mir n l) j : Nat) : Int) by omega)]
        by_cases c2 : diff (row (mir n l) i) (row (mir n l) j) = 0
        · rw [if_pos ⟨by omega, c2⟩] at next
          simp only [if_pos (show ((diff (row (mir n l) i) (row (mir n l) j) : Nat) : Int) = 0 by omega), next64 (level ((dif (mir n l)).take q) (row (mir n l) j)) 1048576 (by omega) (by omega)]
          exact next
        · rw [if_neg (fun h => c2 h.2)] at next
          simp only [if_neg (show ¬ ((diff (row (mir n l) i) (row (mir n l) j) : Nat) : Int) = 0 by omega)]
          exact next
    · refine Ev.step (fun _ => rfl) ?_
      simp only [impl_Order_levels.l1, if_neg (show ¬ ((dif (mir n l)).length : Int) < ((dif (mir n l)).length : Int) by omega), List.length_map, List.length_range, if_pos (show j < 17592186044416 by omega), List.take_length, next64 j n hj (by omega)]
      simpa [List.range_succ] using next
  · refine Ev.step (fun _ => rfl) ?_
    simp only [impl_Order_levels.l0, if_neg (show ¬ (n : Int) < (n : Int) by omega)]
    exact Ev.now _
theorem levels_num (n : Nat) (hn : n ≤ 10) (x : Nat → Int) : levelsL n (mir n (relL n fun i j => decide (x i < x j))) = ranks ((List.range n).map x) := by
  have hR : Rel n (relL n fun i j => decide (x i < x j)) := relL_rel n hn _
  have hm := mir_rel hR
  have hb : ∀ j, j < n → ∀ i, (row (mir n (relL n fun i j => decide (x i < x j))) j).testBit i = (decide (i < n) && decide (x i < x j)) := by
    intro j hj i
    rw [show (row (mir n (relL n fun i j => decide (x i < x j))) j).testBit i = B (mir n (relL n fun i j => decide (x i < x j))) j i from rfl, mir_B hR, relL_B, decide_eq_true hj, Bool.true_and]
  unfold levelsL ranks
  rw [List.map_map]
  apply List.map_congr_left
  intro j hj
  have hj := List.mem_range.1 hj
  show ((level (dif (mir n (relL n fun i j => decide (x i < x j)))) _ : Nat) : Int) = ((rank ((List.range n).map x) (x j) : Nat) : Int)
  congr 1
  rw [← levels_rank n (row (mir n (relL n fun i j => decide (x i < x j)))) x ?_ ?_ j hj, ← hm.rows]
  · intro a b ha hb' hab
    constructor
    · rw [diff_zero]
      intro i hi
      rw [hb a ha, Bool.and_eq_true, decide_eq_true_iff, decide_eq_true_iff] at hi
      rw [hb b hb', Bool.and_eq_true, decide_eq_true_iff, decide_eq_true_iff]
      exact ⟨hi.1, by omega⟩
    · intro e
      have h1 := hb a ha a
      have h2 := hb b hb' a
      rw [e, h2] at h1
      simp [ha, hab] at h1
  · intro a b ha hb' hab
    apply Nat.eq_of_testBit_eq
    intro i
    rw [hb a ha, hb b hb', hab]
end Go.Proofs.YtimjblnglhmakaaDoor.M
namespace Go.Proofs.YtimjblnglhmakaaDoor.M
open Go.RowKit Go.Proofs.YtimjblnglhmakaaDoorW.PrintMore Go.Proofs.YtimjblnglhmakaaDoorW.PrintLast Go.Proofs.YtimjblnglhmakaaDoorW.PrintWords Go.Proofs.YtimjblnglhmakaaDoor.P
set_option maxRecDepth 4000
def nums (n : Nat) (l : List Int) : List Int := (List.range n).map (num n l)
def traceOf (n : Int) (l : List Int) : List Int × Bool := if isSemi n l then (ranks (nums n.toNat l), true) else ([], false)
theorem all_hits {n : Nat} {l : List Int} (h : Rel n l) (h22 : no22 n l = true) (h31 : no31 n l = true) : (∀ a b c d, hit22 l a b c d = false) ∧ ∀ a b c d, d < n → hit31 l a b c d = false := by
  rw [no22_iff] at h22
  rw [no31_iff] at h31
  constructor
  · intro a b c d
    cases hc : hit22 l a b c d with
    | false => rfl
    | true =>
      have hc' := hc
      unfold hit22 at hc'
      rw [Bool.and_eq_true, Bool.and_eq_true] at hc'
      rw [h22 a (h.B_lt' hc'.1) b (h.B_lt hc'.1) c (h.B_lt' hc'.2.1) d (h.B_lt hc'.2.1)] at hc
      cases hc
  · intro a b c d hd
    cases hc : hit31 l a b c d with
    | false => rfl
    | true =>
      have hc' := hc
      unfold hit31 at hc'
      rw [Bool.and_eq_true, Bool.and_eq_true] at hc'
      rw [h31 a (h.B_lt' hc'.1) b (h.B_lt hc'.1) c (h.B_lt hc'.2.1) d hd] at hc
      cases hc
theorem diff_some (a b : Nat) : diff a b ≠ 0 ↔ ∃ x, a.testBit x = true ∧ b.testBit x = false := by
  rw [Ne, diff_zero]
  constructor
  · intro h
    refine Classical.byContradiction fun hno => h fun x hx => ?_
    cases hb : b.testBit x with
    | true => rfl
    | false => exact (hno ⟨x, hx, hb⟩).elim
  · rintro ⟨x, h1, h2⟩ h
    rw [h x h1] at h2
    cases h2
theorem trace_pair {n : Nat} {l : List Int} (o : Ord n l) (h22 : no22 n l = true) (h31 : no31 n l = true) (i j : Nat) (hi : i < n) (hj : j < n) : impl_TraceOf_1.f (i : Int) (j : Int) (n : Int) (mir n l) (n : Int) l = some (decide (num n l i < num n l j)) := by
  have h := o.toRel
  have hm := mir_rel h
  obtain ⟨H22, H31⟩ := all_hits h h22 h31
  have key := semi_trace o H22 H31 i j hi hj
  have e1 : diff (row (mir n l) j) (row (mir n l) i) ≠ 0 ↔ ∃ x, B l x j = true ∧ B l x i = false := by
    rw [diff_some]
    have e : ∀ x k, (row (mir n l) k).testBit x = B l x k := fun x k => mir_B h k x
    simp only [e]
  have e2 : diff (row l i) (row l j) ≠ 0 ↔ ∃ y, B l i y = true ∧ B l j y = false := diff_some _ _
  rw [← e1, ← e2] at key
  unfold impl_TraceOf_1.f
  simp only [if_pos (show (0 : Int) ≤ (j : Int) by omega), if_pos (show (0 : Int) ≤ (i : Int) by omega), hm.len, h.len, if_pos (show (j : Int) < (n : Int) by omega), if_pos (show (i : Int) < (n : Int) by omega), hm.rd, h.rd, andNot_i64 _ _ (hm.row_62 j) (hm.row_62 i), andNot_i64 _ _ (h.row_62 i) (h.row_62 j)]
  by_cases c : diff (row (mir n l) j) (row (mir n l) i) = 0
  · rw [if_pos (by omega)]
    congr 1
    rw [Bool.eq_iff_iff, decide_eq_true_iff, ← key, bne_iff_ne]
    constructor
    · intro h; exact .inr (by omega)
    · rintro (h | h)
      · exact absurd c h
      · omega
  · rw [if_neg (by omega)]
    congr 1
    symm
    rw [decide_eq_true_iff, ← key]
    exact .inl c
theorem TraceOf_ev (n : Int) (l : List Int) (hl : l.length ≤ 140737488355328) : Ev (fun k => impl_TraceOf.f k n l) (traceOf n l) := by
  unfold impl_TraceOf.f traceOf
  refine Ev.bind (isSemi_ev n l hl) ?_
  cases hs : isSemi n l with
  | false => simp only [Bool.false_eq_true, if_false]; exact Ev.now _
  | true =>
    have hs' := hs
    unfold isSemi at hs'
    rw [Bool.and_eq_true, Bool.and_eq_true] at hs'
    obtain ⟨h1, h22, h31⟩ := hs'
    obtain ⟨n, rfl, o⟩ := isOrd_iff.1 h1
    rw [Int.toNat_natCast] at h22 h31
    have hn := o.le
    simp only [if_true, Int.toNat_natCast]
    refine Ev.bind (mirror_ev o.toRel) ?_
    refine Ev.bind (relation_ev n (by omega) (fun _ x y => impl_TraceOf_1.f x y (n : Int) (mir n l) (n : Int) l) (fun i j => decide (num n l i < num n l j)) ?_) ?_
    · intro i j hi hj
      exact Ev.const (trace_pair o h22 h31 i j hi hj)
    · refine Ev.bind (levels_ev (relL_rel n hn _)) ?_
      rw [levels_num n hn]
      exact Ev.now _
theorem sTraceOf_ev (n : Int) (l : List Int) (hl : l.length ≤ 140737488355328) : Ev (fun k => spec_TraceOf.f k n l) (traceOf n l) := by
  unfold spec_TraceOf.f traceOf
  refine Ev.bind (seGood_ev n l hl) ?_
  cases hs : isSemi n l with
  | false => simp only [Bool.false_eq_true, if_false]; exact Ev.now _
  | true =>
    obtain ⟨n, rfl, o⟩ := isOrd_iff.1 (isSemi_ord hs)
    have hn := o.le
    have h := o.toRel
    simp only [if_true, Int.toNat_natCast]
    refine Ev.up (fun i k => spec_TraceOf.l0 k ((List.range i).map (num n l)) (i : Int) (n : Int) l) n ?_ ?_
    · intro i hi next
      have e1 := seMany_ev hn (setOf_lt n fun k => B l k i)
      rw [elems_setOf] at e1
      have b1 := cnt_le n fun k => B l k i
      have b2 := cnt_le n fun k => B l i k
      have ew : wrap64 (((cnt n fun k => B l k i : Nat) : Int) - ((abv n l i : Nat) : Int)) = num n l i := wrap64_id _ (by unfold abv; omega) (by unfold abv; omega)
      refine Ev.step (fun _ => rfl) ?_
      simp only [spec_TraceOf.l0, if_pos (show (i : Int) < (n : Int) by omega), if_pos (show (0 : Int) ≤ (i : Int) by omega), h.len, h.rd]
      refine Ev.bind (orBelow_ev h _ i (by omega)) (Ev.bind e1 (Ev.bind (seMany_ev hn (h.row_lt i)) ?_))
      rw [elems_row]
      simp only [ew, List.length_map, List.length_range, if_pos (show i < 17592186044416 by omega), next64 i n hi (by omega)]
      simpa [List.range_succ] using next
    · refine Ev.step (fun _ => rfl) ?_
      simp only [spec_TraceOf.l0, if_neg (show ¬ (n : Int) < (n : Int) by omega)]
      exact Ev.bind (weOfNumbers_ev _ (by simp; omega)) (Ev.now _)
theorem traceOf_len (n : Int) (l : List Int) : (traceOf n l).1.length ≤ 10 := by
  unfold traceOf
  cases hs : isSemi n l with
  | false => simp
  | true =>
    obtain ⟨n, rfl, o⟩ := isOrd_iff.1 (isSemi_ord hs)
    have := o.le
    simpa [ranks, nums] using this
end Go.Proofs.YtimjblnglhmakaaDoor.M
namespace Go.Proofs.YtimjblnglhmakaaDoor.Pure
open Go.RowKit Go.Proofs.YtimjblnglhmakaaDoorW.PrintMore Go.Proofs.YtimjblnglhmakaaDoorW.PrintLast Go.Proofs.YtimjblnglhmakaaDoorW.PrintWords Go.Proofs.YtimjblnglhmakaaDoor.P Go.Proofs.YtimjblnglhmakaaDoor.M
set_option maxRecDepth 4000
theorem eqIntS_same (l : List Int) (hl : l.length ≤ 1048576) : Ev (fun k => laws_eqIntS.f k l l) true := Ev.to (eqIntS_ev l l hl) (by simp)
theorem FnExactTraceOf : P.laws_FnExactTraceOf.Pure := by
  intro n l _ hl _
  refine Ev.rounds (g := fun k => laws_FnExactTraceOf.f k n l) ?_
  unfold laws_FnExactTraceOf.f
  rw [szOrder_eq n l 1048576 (by omega) (by omega) hl]
  simp only [Option.bind_some]
  by_cases hc : (1048576 : Int) < (l.length : Int)
  · simp only [if_pos hc, if_pos (show (-1 : Int) < 0 by omega)]
    exact Ev.now _
  simp only [if_neg hc, if_neg (show ¬ 1048576 - (l.length : Int) < 0 by omega)]
  have hl1 : l.length ≤ 1048576 := by omega
  have hlen := traceOf_len n l
  have r : Ev (fun k => impl_TraceOf.f k n l) (traceOf n l) := TraceOf_ev n l (by omega)
  refine Ev.bind (toOrder_ev n l hl1) ?_
  refine Ev.bind (sTraceOf_ev n l (by omega)) ?_
  refine Ev.bind (toOrder_ev n l hl1) ?_
  refine Ev.bind r ?_
  refine Ev.bind (eqIntS_same _ (by omega)) ?_
  simp only [if_true, bne_self_eq_false]
  refine Ev.step (fun _ => rfl) ?_
  simp only [laws_FnExactTraceOf.j0, Bool.false_eq_true, if_false]
  refine Ev.bind (toOrder_ev n l hl1) ?_
  refine Ev.bind (eqOrder_same _ _ hl1) ?_
  simp only [if_true]
  refine Ev.bind (markOrder_ev n l 1 (by omega) hl1) ?_
  simp only [if_neg (show ¬ ((1 + l.length : Nat) : Int) < 0 by omega)]
  refine Ev.bind (eqIntS_same _ (by omega)) ?_
  simp only [if_true, bne_self_eq_false]
  refine Ev.step (fun _ => rfl) ?_
  simp only [laws_FnExactTraceOf.j1, Bool.false_eq_true, if_false]
  refine Ev.bind (markIntS_ev _ 1 (by omega) (by omega)) ?_
  refine Ev.bind (heldIntS_ev _ 1 (by omega) (by omega)) ?_
  simp only [if_neg (show ¬ ((1 + (traceOf n l).1.length : Nat) : Int) < 0 by omega), if_true]
  refine Ev.bind (toOrder_ev n l hl1) ?_
  refine Ev.bind r ?_
  refine Ev.bind (eqIntS_same _ (by omega)) ?_
  simp only [if_true, bne_self_eq_false]
  refine Ev.step (fun _ => rfl) ?_
  simp only [laws_FnExactTraceOf.j2, Bool.false_eq_true, if_false]
  refine Ev.bind (heldIntS_ev _ 1 (by omega) (by omega)) ?_
  simp only [if_neg (show ¬ ((1 + (traceOf n l).1.length : Nat) : Int) < 0 by omega), if_true]
  exact Ev.now _
end Go.Proofs.YtimjblnglhmakaaDoor.Pure
namespace Go.Proofs.YtimjblnglhmakaaDoor.fnExactTraceOf
open Go.ChangeShapes Go.WideShapes Go.ChangeAt Go.RowKit
open Go.ChangeMaps (open_string shut_string)
open Go.Proofs.YtimjblnglhmakaaDoorW
set_option linter.unusedVariables false
theorem own : ownKnob Tryd.prog.godebug = none := by kernel_rfl
theorem laidOut : laidOutB Tryd.prog = true := by kernel_rfl
def IsRow (k : IntKind) (w : World) (a : Option Addr) (len cap : Nat) (zs : List Int) : Prop :=
  (a = none ∧ len = 0 ∧ cap = 0 ∧ zs = []) ∨
  ∃ x, a = some x ∧ len ≤ cap ∧ cap ≤ maxLen ∧ zs.length = cap ∧ (∀ i, i < zs.length → w.cell? (x.add i) = some (.int k (zs.getD i 0))) ∧ ∀ n ∈ zs, (Lit.int k n).wf = true
theorem gT : Tryd.prog.globalNamed "math/bits.deBruijn64tab" = some 1 := by kernel_rfl
theorem tT : (Tryd.prog.globals[1]?).map (·.type) = some 162 := by kernel_rfl
theorem cT : Tryd.prog.cellsOf 162 = 64 := by kernel_rfl
theorem cE : Tryd.prog.cellsOf 5 = 1 := by kernel_rfl
def tab64 : List Int := Lib.deBruijn64tab.map fun (z : Nat) => (z : Int)
theorem tab64_at : ∀ j, j < 64 → tab64.getD j 0 = ((Lib.deBruijn64tab.getD j 0 : Nat) : Int) := by decide +kernel
theorem table {W : World} (h : laidMetH Tryd.prog Rows.fnExactTraceOfRow.laid W) : P.TabOK W := by
  rw [MakeChecks.laidMetH_plain _ _ _ (by kernel_rfl)] at h
  have h1 : laidMet Tryd.prog [("math/bits.deBruijn32tab", Rows.laid_math_bits_deBruijn32tab), ("math/bits.deBruijn64tab", Lib.tabData .u8 tab64)] W := h
  have h0 := laidMet.tail (h1)
  have ht := Lib.tabIs_of_head gT tT Tryd.underlying162 Tryd.underlying5 cE cT h0
  intro j hj
  rw [ht.cell gT j (by exact hj), tab64_at j hj]
theorem door_met (os : Os) (args : Array Value) : laidMetH Tryd.prog Rows.fnExactTraceOfRow.laid ((World.doorLaid Tryd.prog 400 os).forCall (fun _ _ => 0) ⟨#[], args, []⟩).memory :=
  laidMetH_of_parts3 (fuel := 8) (laidMet_of_run' 8 (by kernel_rfl) (by kernel_rfl)) (by kernel_rfl) (by kernel_rfl)
set_option maxRecDepth 100000 in
theorem lifted (os : Os) (started : os.Started) (H : Type) (enc : TypeId × Value → H) :
    ReturnsInHanded {} Tryd.checked os 4 .any (fun w args => (Rows.fnExactTraceOfSpec.pre enc Tryd.prog Tryd.f4 [] false w args ∧ laidMetH Tryd.prog Rows.fnExactTraceOfRow.laid w) ∧ sizedMet enc Tryd.prog Tryd.f4 (OpenSpec.ofChange Rows.fnExactTraceOfSpec) false w args)
      (Rows.fnExactTraceOfSpec.post enc Tryd.prog Tryd.f4 false true false false) := by
  refine returnsInHanded_of_change_and (C := Tryd.checked) (X := fun w _ => laidMetH Tryd.prog Rows.fnExactTraceOfRow.laid w) (fun _ _ _ hh h => h.of_heap hh) own started (by kernel_rfl) Tryd.func4
    (ChangeSpec.witness_shaped (enc := enc) (C := Tryd.checked) (os := os) (X := fun w _ => laidMetH Tryd.prog Rows.fnExactTraceOfRow.laid w) false (World.doorLaid Tryd.prog 400 os) #[.agg #[.int .i64 0, .slice none 0 0]] 8 rfl (World.shaped_of_RefB (by kernel_rfl) (by kernel_rfl)) (by kernel_rfl) (by kernel_rfl) (by kernel_rfl) (door_met os _)) ?_
  intro W base args ds gs before hval0 hW hcnd hsz0 hL _
  have hsz : (DataW.weightsEach Tryd.prog (Tryd.f4.params.toList ++ Rows.fnExactTraceOfSpec.plain.varTypes Tryd.prog) (ds ++ gs)).all (· ≤ reachBytes) = true := hsz0
  have hval : ∀ (j : Nat) t v, Tryd.f4.params[j]? = some t → args[j]? = some v → Value.okWide Tryd.prog W .any base t v := hval0
  have hW' := hW
  obtain ⟨p, q, hA0, hV, rfl, hfz, hnd⟩ := hW
  have hA : DataW.TrodAll enc Tryd.prog W 0 (fun _ => true) true Tryd.f4.params.toList args.toList ds p := hA0
  rw [Tryd.params4] at hA hval hsz
  obtain ⟨v0, vs0, d0, ds0, p0, q0, hargs, rfl, rfl, h0, r0⟩ := trodAll_cons hA
  obtain ⟨rfl, rfl, rfl⟩ := trodAll_nil r0
  obtain rfl : args = #[v0] := by cases args; simp_all
  obtain ⟨rfl, rfl⟩ := trodVars_none hV
  have k0 := h0
  have lt0 : ∀ x ∈ p0, x.block < W.heap.size := by obtain ⟨m, hm⟩ := k0; exact DataW.trod_lt m _ _ _ hm
  obtain ⟨u0_0, u0_1, y0_0, y0_1, n0_, rfl, hd0_, hp0_, e0_0, e0_1⟩ := Go.Joins.open_agg2 Tryd.underlying24 (by kernel_rfl) (by kernel_rfl) (hval 0 24 v0 rfl rfl) h0
  obtain ⟨a0_0, hc0_0, _, w0_0⟩ := DataW.trod_int Tryd.underlying3 e0_0
  simp only [List.cons.injEq, and_true] at hc0_0
  subst hc0_0
  obtain ⟨a0_1, len0_1, cap0_1, hc0_1⟩ := Go.Joins.slice_form Tryd.underlying22 e0_1
  simp only [List.cons.injEq, and_true] at hc0_1
  subst hc0_1
  obtain ⟨z0_1, w0_1⟩ : ∃ zs, IsRow .i64 W a0_1 len0_1 cap0_1 zs := by
    rcases open_ints Tryd.underlying22 Tryd.underlying3 (by kernel_rfl) e0_1 with ⟨hcs, _⟩ | ⟨x, l, c, zs, hcs, _, hl, hm, hz, _, hcell, hwz⟩
    · simp at hcs
      obtain ⟨rfl, rfl, rfl⟩ := hcs
      exact ⟨[], .inl ⟨rfl, rfl, rfl, rfl⟩⟩
    · simp at hcs
      obtain ⟨rfl, rfl, rfl⟩ := hcs
      exact ⟨zs, .inr ⟨_, rfl, hl, hm, by simpa using hz, hcell, hwz⟩⟩
  clear hA0 hval0 hsz0 hsz
  refine (P.laws_FnExactTraceOf.walk Pure.FnExactTraceOf a0_0 a0_1 len0_1 cap0_1 z0_1 W w0_0 w0_1 (table hL)).mono fun e W' ⟨he, bel⟩ => ?_
  subst he
  exact ⟨_, rfl, _, _, _, [], _, [], hW', trodAll_mk1 (shut_bool Tryd.underlying4 _), (trodAll_cons_mk (Below.trod laidOut (by kernel_rfl) (of_decide_eq_true (by kernel_rfl)) k0 bel lt0) trodAll_mk0), rfl, bel.frame _, fun h => by cases h⟩
set_option maxHeartbeats 8000000 in
theorem named_ : Tryd.pinned.checked.prog.funcNamed "loop.example/g01106/laws.FnExactTraceOf" = some 4 := by kernel_rfl
set_option maxHeartbeats 8000000 in
theorem joined_ : joinedFacts Tryd.pinned.checked.prog 4 Tryd.f4 Rows.fnExactTraceOfSpec Rows.fnExactTraceOfRow = true := by
  unfold joinedFacts
  repeat' (with_reducible refine (Bool.and_eq_true_iff).2 ⟨?_, ?_⟩)
  all_goals (as_aux_lemma => kernel_rfl)
theorem over : Rows.fnExactTraceOfRow.holds Tryd.pinned (OpenSpec.ofChange Rows.fnExactTraceOfSpec) :=
  OpenClaim.holds_of_wide 4 Tryd.f4 rfl rfl rfl rfl rfl rfl rfl ⟨rfl, rfl, rfl, rfl, rfl⟩ rfl rfl rfl rfl rfl named_ Tryd.func4 joined_
    (of_decide_eq_true (by kernel_rfl)) (by unfold Func.isWrapper; first | (rw [if_pos (by decide +kernel)]; kernel_rfl) | (rw [if_neg (by decide +kernel)]; exact ⟨rfl, rfl⟩))
    (fun os started H enc _ => lifted os started H enc)
set_option maxHeartbeats 8000000 in
theorem main_ : Tryd.pinned.checked.prog.mainIs = some (true, "db67f5b5a54c9f31397de544f55d48fa9d1bcc0f366770764b110f372f5e00c3".toList) := by kernel_rfl
set_option maxHeartbeats 8000000 in
theorem looks_ : true = Tryd.pinned.checked.prog.looks [] := by kernel_rfl
theorem stand_ : ([24].all fun u => !Tryd.prog.wantsStandIn u) = true := by kernel_rfl
set_option maxHeartbeats 8000000 in
theorem goes_ : false = Rows.fnExactTraceOfRow.goesBy Tryd.pinned.checked.prog := by kernel_rfl
theorem wf_ : Rows.fnExactTraceOfRow.wfByText (OpenSpec.ofChange Rows.fnExactTraceOfSpec) = true := by kernel_rfl
theorem proved : Rows.FnExactTraceOfCardSaid :=
  Claim7.holds_tied_plain_at .later [] [.data, .data] true (true, "db67f5b5a54c9f31397de544f55d48fa9d1bcc0f366770764b110f372f5e00c3") true
    over (fun _ h => by cases h) wf_ (fun _ h => by cases h) fnExactTraceOf_row_tie rfl ⟨rfl, rfl⟩ main_ rfl
    (fun f fn hf hfn => by
      obtain rfl : f = 4 := Option.some.inj (named_.symm.trans hf) |>.symm
      obtain rfl : fn = Tryd.f4 := (Option.some.inj (Tryd.func4.symm.trans hfn)).symm
      exact ⟨looks_, fun j t ht => by
        rw [Tryd.params4] at ht
        have hm : t ∈ [24] := by have hq := Array.mem_of_getElem? ht; simp at hq; simp [hq]
        exact (show Tryd.prog.wantsStandIn t = false by simpa using List.all_eq_true.1 stand_ t hm)⟩)
    goes_
end Go.Proofs.YtimjblnglhmakaaDoor.fnExactTraceOf
namespace Go.Proofs.YtimjblnglhmakaaDoor
theorem fnExactTraceOf_holds : Rows.FnExactTraceOfCardSaid := fnExactTraceOf.proved
end Go.Proofs.YtimjblnglhmakaaDoor
