/- The law FnPatterns holds at every input. Written by wip/pack.py: the kit's printed words that are used, the functions' walks as wip/gen.py prints them, and hand proofs. -/
import Derived.Test.YtfjpilcmjabikaaDoorKFnPatterns6
import Derived.SizedLaws
import Derived.ChangeSlices
import Derived.Test.YtfjpilcmjabikaaDoorRows
import Derived.Test.YtfjpilcmjabikaaDoorCards
import Derived.Test.YtfjpilcmjabikaaDoorTie
import Derived.WalkKit
import Derived.ProofKit
import Derived.OpenShut
import Derived.ShutString
import Derived.ChangeOld
import Derived.Below
import Derived.LaidMore
import Derived.Stop.Joined
import Derived.Stop.LaidErr
import Derived.Lib.LaidTab
import Derived.Lib.SmallJoins
import Derived.SevenTiedAt
namespace Go.Proofs.YtfjpilcmjabikaaDoor.P
open Go.RowKit Go.Proofs.YtfjpilcmjabikaaDoorW.PrintWords Go.Proofs.YtfjpilcmjabikaaDoorW.PrintLast Go.Proofs.YtfjpilcmjabikaaDoorW.PrintMore
open Bool renaming true → T, false → F
open List renaming setIfInBounds_toArray → L_, set_cons_zero → M_, set_cons_succ → N_, map_toArray → P_, map_cons → Q_, map_nil → R_, length_drop → S_, length_take → U_
open Aside0 renaming mk → A_
attribute [local go_sem] max2_int min2_int max_two min_two max_three min_three max_four min_four
set_option linter.unusedVariables false
set_option linter.unusedSimpArgs false
attribute [local go_sem] fldOrder_0 fldOrder_1
mutual
def Abq.l0 : Nat → List Int → Int → Int → Int → List Int → Option (Bool)
 | 0,_,_,_,_,_=>none
 | k + 1,x11,x12,x13,x289000,x289001=>if x13 < x12 then (if 0 ≤ x13 then (if x13 < (x11.length : Int) then ((Aau.f x289000 x289001 x13 x13).bind fun t291=>(if t291 = true then (some false) else ((Aa8.f k (rd x11 x13)).bind fun t292=>(Abq.l1 k (rd x11 x13) x11 x12 x13 t292 (t292.length : Int) 0 x289000 x289001)))) else (none)) else (none)) else (some true)
def Abq.l1 : Nat → Int → List Int → Int → Int → List Int → Int → Int → Int → List Int → Option (Bool)
 | 0,_,_,_,_,_,_,_,_,_=>none
 | k + 1,x4,x11,x12,x13,x23,x24,x25,x289000,x289001=>if x25 < x24 then (if 0 ≤ x25 then (if x25 < (x23.length : Int) then (if 0 ≤ (rd x23 x25) then (if (rd x23 x25) < (x289001.length : Int) then (if (Go.bits .andNot .i64 (rd x289001 (rd x23 x25)) x4) = 0 then (Abq.l1 k x4 x11 x12 x13 x23 x24 (wrap64 (x25 + 1)) x289000 x289001) else (some false)) else (none)) else (none)) else (none)) else (none)) else (Abq.l0 k x11 x12 (wrap64 (x13 + 1)) x289000 x289001)
end
def Abq.f (k : Nat) (a0_0 : Int) (l0_1 : List Int) : Option (Bool) := (Aal.f k a0_0 l0_1).bind fun t289 => (if t289 = true then (Abq.l0 k l0_1 (l0_1.length : Int) 0 a0_0 l0_1) else (some false))
mutual
def Abr.l0 : Nat → List Int → Int → Int → Int → List Int → Option (Bool)
 | 0,_,_,_,_,_=>none
 | k + 1,x11,x12,x13,x325000,x325001=>if x13 < x12 then (if 0 ≤ x13 then (if x13 < (x11.length : Int) then ((Aay.f (rd x11 x13) x13).bind fun t327=>(if t327 = true then (some false) else ((Abs.f k (rd x11 x13)).bind fun t328=>(Abr.l1 k (rd x11 x13) x11 x12 x13 t328 (t328.length : Int) 0 x325000 x325001)))) else (none)) else (none)) else (some true)
def Abr.l1 : Nat → Int → List Int → Int → Int → List Int → Int → Int → Int → List Int → Option (Bool)
 | 0,_,_,_,_,_,_,_,_,_=>none
 | k + 1,x4,x11,x12,x13,x22,x23,x24,x325000,x325001=>if x24 < x23 then (if 0 ≤ x24 then (if x24 < (x22.length : Int) then (if 0 ≤ (rd x22 x24) then (if (rd x22 x24) < (x325001.length : Int) then (if (Go.bits .andNot .i64 (rd x325001 (rd x22 x24)) x4) = 0 then (Abr.l1 k x4 x11 x12 x13 x22 x23 (wrap64 (x24 + 1)) x325000 x325001) else (some false)) else (none)) else (none)) else (none)) else (none)) else (Abr.l0 k x11 x12 (wrap64 (x13 + 1)) x325000 x325001)
end
def Abr.f (k : Nat) (a0_0 : Int) (l0_1 : List Int) : Option (Bool) := (Aan.f k a0_0 l0_1).bind fun t325 => (if t325 = true then (Abr.l0 k l0_1 (l0_1.length : Int) 0 a0_0 l0_1) else (some false))
end Go.Proofs.YtfjpilcmjabikaaDoor.P
namespace Go.Proofs.YtfjpilcmjabikaaDoor.P
open Go.RowKit Go.Proofs.YtfjpilcmjabikaaDoorW.PrintWords Go.Proofs.YtfjpilcmjabikaaDoorW.PrintLast Go.Proofs.YtfjpilcmjabikaaDoorW.PrintMore
open Bool renaming true → T, false → F
open List renaming setIfInBounds_toArray → L_, set_cons_zero → M_, set_cons_succ → N_, map_toArray → P_, map_cons → Q_, map_nil → R_, length_drop → S_, length_take → U_
open Aside0 renaming mk → A_
attribute [local go_sem] max2_int min2_int max_two min_two max_three min_three max_four min_four
set_option linter.unusedVariables false
set_option linter.unusedSimpArgs false
attribute [local go_sem] fldOrder_0 fldOrder_1
mutual
def Abm.l0 (is : Int → Int → Option Bool) : Nat → Int → Int → Int → Int → List Int → Option (Int × List Int)
 | 0,_,_,_,_,_=>none
 | k + 1,x0,x12,x13,x252000,x252001=>if x13 < x12 then (Abm.l1 is k x0 x13 x12 x13 x0 0 x252000 x252001) else (some (x252000,x252001))
def Abm.l1 (is : Int → Int → Option Bool) : Nat → Int → Int → Int → Int → Int → Int → Int → List Int → Option (Int × List Int)
 | 0,_,_,_,_,_,_,_,_=>none
 | k + 1,x0,x6,x12,x13,x16,x17,x252000,x252001=>if x17 < x16 then ((is x6 x17).bind fun t252=>(if t252 = true then (if 0 ≤ x6 then (if x6 < (x252001.length : Int) then (if 0 ≤ x17 then (Abm.l1 is k x0 x6 x12 x13 x16 (wrap64 (x17 + 1)) x252000 (x252001.set (x6 : Int).toNat (Go.bits .or .i64 (rd x252001 x6) (shl .i64 1 x17)))) else (none)) else (none)) else (none)) else (Abm.l1 is k x0 x6 x12 x13 x16 (wrap64 (x17 + 1)) x252000 x252001))) else (Abm.l0 is k x0 x12 (wrap64 (x13 + 1)) x252000 x252001)
end
def Abm.f (k : Nat) (a0 : Int) (is : Int → Int → Option Bool) : Option (Int × List Int) := if 0 ≤ a0 then (if (a0 : Int).toNat ≤ 35184372088832 then (Abm.l0 is k a0 a0 0 a0 (List.replicate (a0 : Int).toNat 0)) else (none)) else (none)
end Go.Proofs.YtfjpilcmjabikaaDoor.P
namespace Go.Proofs.YtfjpilcmjabikaaDoor.M
open Go.RowKit Go.Proofs.YtfjpilcmjabikaaDoorW.PrintMore Go.Proofs.YtfjpilcmjabikaaDoorW.PrintLast Go.Proofs.YtfjpilcmjabikaaDoorW.PrintWords Go.Proofs.YtfjpilcmjabikaaDoor.P
def isRel (n : Int) (l : List Int) : Bool := decide (0 ≤ n ∧ n ≤ 10 ∧ (l.length : Int) = n ∧ ∀ x ∈ l, 0 ≤ x ∧ x ≤ ((2 ^ n.toNat : Nat) : Int) - 1)
def row (l : List Int) (i : Nat) : Nat := (l.getD i 0).toNat
def B (l : List Int) (i j : Nat) : Bool := (row l i).testBit j
structure Rel (n : Nat) (l : List Int) : Prop where
  le : n ≤ 10
  len : l.length = n
  mem : ∀ x ∈ l, 0 ≤ x ∧ x ≤ ((2 ^ n : Nat) : Int) - 1
theorem isRel_iff {n : Int} {l : List Int} : isRel n l = true ↔ ∃ m : Nat, n = m ∧ Rel m l := by
  unfold isRel
  rw [decide_eq_true_iff]
  constructor
  · rintro ⟨h0, h1, h2, h3⟩
    obtain ⟨m, rfl⟩ := Int.eq_ofNat_of_zero_le h0
    exact ⟨m, rfl, by omega, by omega, by simpa using h3⟩
  · rintro ⟨m, rfl, h⟩
    refine ⟨by omega, by have := h.le; omega, by have := h.len; omega, by simpa using h.mem⟩
section
variable {n : Nat} {l : List Int}
theorem Rel.getD (h : Rel n l) (i : Nat) : l.getD i 0 = ((row l i : Nat) : Int) := by
  unfold row
  by_cases hi : i < l.length
  · have := (h.mem l[i] (List.getElem_mem hi)).1
    rw [show l.getD i 0 = l[i] by simp [hi]]
    omega
  · rw [show l.getD i 0 = 0 by simp [Nat.not_lt.1 hi]]
    rfl
theorem Rel.row_lt (h : Rel n l) (i : Nat) : row l i < 2 ^ n := by
  have hp : 0 < 2 ^ n := Nat.two_pow_pos n
  by_cases hi : i < l.length
  · have h1 := h.mem l[i] (List.getElem_mem hi)
    have h2 := h.getD i
    rw [show l.getD i 0 = l[i] by simp [hi]] at h2
    omega
  · unfold row
    rw [show l.getD i 0 = 0 by simp [Nat.not_lt.1 hi]]
    simpa using hp
theorem Rel.row_62 (h : Rel n l) (i : Nat) : row l i < 9223372036854775808 := lt62 (h.row_lt i) (by have := h.le; omega)
theorem Rel.rd (h : Rel n l) (i : Nat) : rd l (i : Int) = ((row l i : Nat) : Int) := by rw [rd_nat, h.getD]
theorem Rel.bit (h : Rel n l) (i j : Nat) : M.bit (Go.Proofs.YtfjpilcmjabikaaDoorW.PrintWords.rd l (i : Int)) j = B l i j := by rw [h.rd, bit_cast]; rfl
end
def relL (n : Nat) (p : Nat → Nat → Bool) : List Int := (List.range n).map fun i => ((setOf n (p i) : Nat) : Int)
theorem relL_length (n : Nat) (p : Nat → Nat → Bool) : (relL n p).length = n := by simp [relL]
theorem relL_row (n : Nat) (p : Nat → Nat → Bool) (i : Nat) (h : i < n) : row (relL n p) i = setOf n (p i) := by
  simp [row, relL, h]
theorem relL_B (n : Nat) (p : Nat → Nat → Bool) (i j : Nat) : B (relL n p) i j = (decide (i < n) && (decide (j < n) && p i j)) := by
  unfold B
  by_cases h : i < n
  · rw [relL_row n p i h, testBit_setOf]; simp [h]
  · have : row (relL n p) i = 0 := by simp [row, relL, h]
    rw [this]; simp [h]
theorem relL_rel (n : Nat) (hn : n ≤ 10) (p : Nat → Nat → Bool) : Rel n (relL n p) where
  le := hn
  len := relL_length n p
  mem := by
    intro x hx
    simp only [relL, List.mem_map, List.mem_range] at hx
    obtain ⟨i, _, rfl⟩ := hx
    have := setOf_lt n (p i)
    omega
theorem relL_congr {n : Nat} {p q : Nat → Nat → Bool} (h : ∀ i j, i < n → j < n → p i j = q i j) : relL n p = relL n q := by
  unfold relL
  apply List.map_congr_left
  intro i hi
  rw [List.mem_range] at hi
  rw [setOf_congr (fun j hj => h i j hi hj)]
theorem within_eq (a b c : Int) : Aba.f a b c = some (decide (b ≤ a ∧ a ≤ c)) := by
  unfold Aba.f
  by_cases h : a ≥ b
  · rw [if_pos h]; simp [h]
  · rw [if_neg h]; simp; omega
theorem l1In_eq (a b c : Int) : Abg.f a b c = some (decide (b ≤ a ∧ a ≤ c)) := by
  unfold Abg.f
  by_cases h : a ≥ b
  · rw [if_pos h]; simp [h]
  · rw [if_neg h]; simp; omega
def allIn (l : List Int) (a b : Int) : Bool := decide (∀ x ∈ l, a ≤ x ∧ x ≤ b)
theorem allIn_eq (l : List Int) (a b : Int) : allIn l a b = allB l.length fun i => decide (a ≤ l.getD i 0 ∧ l.getD i 0 ≤ b) := by
  rw [Bool.eq_iff_iff, allB_iff]
  simp only [allIn, decide_eq_true_iff]
  constructor
  · intro h i hi
    have := h l[i] (List.getElem_mem hi)
    simpa [hi] using this
  · intro h x hx
    obtain ⟨i, hi, rfl⟩ := List.getElem_of_mem hx
    have := h i hi
    simpa [hi] using this
theorem allWithin_ev (l : List Int) (a b : Int) (hl : l.length ≤ 140737488355328) : Ev (fun k => Aaw.f k l a b) (allIn l a b) := by
  rw [allIn_eq]
  unfold Aaw.f
  refine Ev.all (fun i k => Aaw.l0 k a b l (l.length : Int) (i : Int)) l.length _ ?_ ?_ ?_
  · intro i r hi hp h
    refine Ev.step (fun _ => rfl) ?_
    rw [decide_eq_true_iff] at hp
    simp only [Aaw.l0, if_pos (show (i : Int) < (l.length : Int) by omega), if_pos (show (0 : Int) ≤ (i : Int) by omega), within_eq, rd_nat, Option.bind_some, decide_eq_true hp, if_true, next64 i l.length hi hl]
    exact h
  · intro i hi hp
    refine Ev.step (fun _ => rfl) ?_
    rw [decide_eq_false_iff_not] at hp
    simp only [Aaw.l0, if_pos (show (i : Int) < (l.length : Int) by omega), if_pos (show (0 : Int) ≤ (i : Int) by omega), within_eq, rd_nat, Option.bind_some, decide_eq_false hp, Bool.false_eq_true, if_false]
    exact Ev.now _
  · refine Ev.step (fun _ => rfl) ?_
    simp only [Aaw.l0, if_neg (show ¬ (l.length : Int) < (l.length : Int) by omega)]
    exact Ev.now _
theorem l1All_ev (l : List Int) (a b : Int) (hl : l.length ≤ 140737488355328) : Ev (fun k => Aa2.f k l a b) (allIn l a b) := by
  rw [allIn_eq]
  unfold Aa2.f
  refine Ev.all (fun i k => Aa2.l0 k a b l (l.length : Int) (i : Int)) l.length _ ?_ ?_ ?_
  · intro i r hi hp h
    refine Ev.step (fun _ => rfl) ?_
    rw [decide_eq_true_iff] at hp
    simp only [Aa2.l0, if_pos (show (i : Int) < (l.length : Int) by omega), if_pos (show (0 : Int) ≤ (i : Int) by omega), l1In_eq, rd_nat, Option.bind_some, decide_eq_true hp, if_true, next64 i l.length hi hl]
    exact h
  · intro i hi hp
    refine Ev.step (fun _ => rfl) ?_
    rw [decide_eq_false_iff_not] at hp
    simp only [Aa2.l0, if_pos (show (i : Int) < (l.length : Int) by omega), if_pos (show (0 : Int) ≤ (i : Int) by omega), l1In_eq, rd_nat, Option.bind_some, decide_eq_false hp, Bool.false_eq_true, if_false]
    exact Ev.now _
  · refine Ev.step (fun _ => rfl) ?_
    simp only [Aa2.l0, if_neg (show ¬ (l.length : Int) < (l.length : Int) by omega)]
    exact Ev.now _
theorem pow_of (n : Int) (h0 : 0 ≤ n) (h1 : n ≤ 10) : wrap64 (shl .i64 1 n - 1) = ((2 ^ n.toNat : Nat) : Int) - 1 := by
  obtain ⟨m, rfl⟩ := Int.eq_ofNat_of_zero_le h0
  rw [shl1 m (by omega), Int.toNat_natCast]
  have h2 : (2 : Nat) ^ m ≤ 2 ^ 10 := Nat.pow_le_pow_right (by decide) (by omega)
  have h3 : 0 < (2 : Nat) ^ m := Nat.two_pow_pos m
  exact wrap64_id _ (by omega) (by omega)
theorem isRel_parts (n : Int) (l : List Int) : isRel n l = (decide (0 ≤ n ∧ n ≤ 10) && (decide ((l.length : Int) = n) && allIn l 0 (((2 ^ n.toNat : Nat) : Int) - 1))) := by
  rw [Bool.eq_iff_iff]
  simp only [isRel, allIn, Bool.and_eq_true, decide_eq_true_iff]
  exact ⟨fun ⟨a, b, c, d⟩ => ⟨⟨a, b⟩, c, d⟩, fun ⟨⟨a, b⟩, c, d⟩ => ⟨a, b, c, d⟩⟩
theorem IsRelation_ev (n : Int) (l : List Int) (hl : l.length ≤ 140737488355328) : Ev (fun k => Aal.f k n l) (isRel n l) := by
  unfold Aal.f
  simp only [within_eq, Option.bind_some]
  rw [isRel_parts]
  by_cases h1 : 0 ≤ n ∧ n ≤ 10
  · by_cases h2 : (l.length : Int) = n
    · simp only [decide_eq_true h1, if_true, if_pos h2, if_pos h1.1, pow_of n h1.1 h1.2, decide_eq_true h2, Bool.true_and]
      exact Ev.bind (allWithin_ev l _ _ hl) (Ev.now _)
    · simp only [decide_eq_true h1, if_true, if_neg h2, decide_eq_false h2, Bool.false_and, Bool.and_false]
      exact Ev.now _
  · simp only [decide_eq_false h1, Bool.false_eq_true, if_false, Bool.false_and]
    exact Ev.now _
theorem orRelation_ev (n : Int) (l : List Int) (hl : l.length ≤ 140737488355328) : Ev (fun k => Aan.f k n l) (isRel n l) := by
  unfold Aan.f
  simp only [l1In_eq, Option.bind_some]
  rw [isRel_parts]
  by_cases h1 : 0 ≤ n ∧ n ≤ 10
  · by_cases h2 : (l.length : Int) = n
    · simp only [decide_eq_true h1, if_true, if_pos h2, if_pos h1.1, pow_of n h1.1 h1.2, decide_eq_true h2, Bool.true_and]
      exact Ev.bind (l1All_ev l _ _ hl) (Ev.now _)
    · simp only [decide_eq_true h1, if_true, if_neg h2, decide_eq_false h2, Bool.false_and, Bool.and_false]
      exact Ev.now _
  · simp only [decide_eq_false h1, Bool.false_eq_true, if_false, Bool.false_and]
    exact Ev.now _
theorem better_eq {n : Nat} {l : List Int} (h : Rel n l) (m : Int) (i j : Nat) (hi : i < n) (hj : j ≤ 62) : Aau.f m l (i : Int) (j : Int) = some (B l i j) := by
  unfold Aau.f
  rw [if_pos (by omega), if_pos (by rw [h.len]; omega), if_pos (by omega), has_and _ _ (by rw [h.rd]; omega) (by rw [h.rd]; have := h.row_62 i; omega) (by omega), h.bit]
theorem ints_getD (l : List Nat) (q : Nat) (h : q < l.length) : (ints l).getD q 0 = ((l.getD q 0 : Nat) : Int) := by simp [ints, h]
end Go.Proofs.YtfjpilcmjabikaaDoor.M
namespace Go.Proofs.YtfjpilcmjabikaaDoor.M
open Go.RowKit Go.Proofs.YtfjpilcmjabikaaDoorW.PrintMore Go.Proofs.YtfjpilcmjabikaaDoorW.PrintLast Go.Proofs.YtfjpilcmjabikaaDoorW.PrintWords Go.Proofs.YtfjpilcmjabikaaDoor.P
set_option maxRecDepth 4000
theorem Ev.hit {β γ : Type} {enc : β → γ} {b : β} (G : Nat → Nat → Option γ) (n : Nat) (f : Nat → Option β) (h : (List.range n).findSome? f = some b) (hit : ∀ i b, i < n → f i = some b → Ev (G i) (enc b)) (miss : ∀ i r, i < n → f i = none → Ev (G (i + 1)) r → Ev (G i) r) :
    Ev (G 0) (enc b) := by
  have key : ∀ m i, i + m = n → (List.range' i m).findSome? f = some b → Ev (G i) (enc b) := by
    intro m
    induction m with
    | zero => intro i _ h; simp at h
    | succ m ih =>
      intro i hi h
      rw [List.range'_succ, List.findSome?_cons] at h
      cases hc : f i with
      | some c => rw [hc] at h; injection h with h; subst h; exact hit i c (by omega) hc
      | none => rw [hc] at h; exact miss i _ (by omega) hc (ih (i + 1) (by omega) h)
  rw [List.range_eq_range'] at h
  exact key n 0 (by omega) h
theorem Ev.miss {β γ : Type} {r : γ} (G : Nat → Nat → Option γ) (n : Nat) (f : Nat → Option β) (h : (List.range n).findSome? f = none) (miss : ∀ i r, i < n → f i = none → Ev (G (i + 1)) r → Ev (G i) r) (stop : Ev (G n) r) : Ev (G 0) r := by
  have h := List.findSome?_eq_none_iff.1 h
  exact Ev.up G n (fun i hi next => miss i r hi (h i (by simpa using hi)) next) stop
def fits (l m : List Int) (z : List Nat) (x : Nat) : Bool :=
  (!decide (x ∈ z) && (B l x x == B m z.length z.length)) && allB z.length fun b => (B l x (z.getD b 0) == B m z.length b) && (B l (z.getD b 0) x == B m b z.length)
def findP (n : Nat) (l m : List Int) : Nat → List Nat → Option (List Nat)
  | 0, z => some z
  | d + 1, z => (List.range n).findSome? fun x => if fits l m z x then findP n l m d (z ++ [x]) else none
def Good (l m : List Int) (z : List Nat) : Prop := ∀ a b, a < z.length → b < z.length → (a ≠ b → z.getD a 0 ≠ z.getD b 0) ∧ B l (z.getD a 0) (z.getD b 0) = B m a b
theorem snoc_lt (z : List Nat) (x a : Nat) (h : a < z.length) : (z ++ [x]).getD a 0 = z.getD a 0 := by
  rw [List.getD_eq_getElem?_getD, List.getD_eq_getElem?_getD, List.getElem?_append_left h]
theorem snoc_len (z : List Nat) (x : Nat) : (z ++ [x]).getD z.length 0 = x := by simp
theorem mem_at {z : List Nat} {x : Nat} (h : x ∈ z) : ∃ a, a < z.length ∧ z.getD a 0 = x := by
  obtain ⟨a, ha, e⟩ := List.getElem_of_mem h
  exact ⟨a, ha, by simp [ha, e]⟩
theorem at_mem {z : List Nat} (a : Nat) (h : a < z.length) : z.getD a 0 ∈ z := by
  simp [h]
theorem good_snoc {l m : List Int} {z : List Nat} {x : Nat} : Good l m (z ++ [x]) ↔ Good l m z ∧ fits l m z x = true := by
  have hl : (z ++ [x]).length = z.length + 1 := by simp
  constructor
  · intro g
    refine ⟨fun a b ha hb => ?_, ?_⟩
    · have h := g a b (by omega) (by omega)
      rw [snoc_lt z x a ha, snoc_lt z x b hb] at h
      exact h
    · have g0 := (g z.length z.length (by omega) (by omega)).2
      rw [snoc_len] at g0
      unfold fits
      rw [Bool.and_eq_true, Bool.and_eq_true, allB_iff]
      refine ⟨⟨?_, by rw [beq_iff_eq]; exact g0⟩, fun b hb => ?_⟩
      · rw [Bool.not_eq_true', decide_eq_false_iff_not]
        intro hm
        obtain ⟨a, ha, e⟩ := mem_at hm
        have h := (g a z.length (by omega) (by omega)).1 (by omega)
        rw [snoc_lt z x a ha, snoc_len] at h
        exact h e
      · have h1 := (g z.length b (by omega) (by omega)).2
        have h2 := (g b z.length (by omega) (by omega)).2
        rw [snoc_lt z x b hb, snoc_len] at h1 h2
        rw [Bool.and_eq_true, beq_iff_eq, beq_iff_eq]
        exact ⟨h1, h2⟩
  · rintro ⟨g, hf⟩
    unfold fits at hf
    rw [Bool.and_eq_true, Bool.and_eq_true, allB_iff, Bool.not_eq_true', decide_eq_false_iff_not, beq_iff_eq] at hf
    obtain ⟨⟨hn, hd⟩, hb⟩ := hf
    have hb : ∀ b, b < z.length → B l x (z.getD b 0) = B m z.length b ∧ B l (z.getD b 0) x = B m b z.length := by
      intro b h
      have := hb b h
      rw [Bool.and_eq_true, beq_iff_eq, beq_iff_eq] at this
      exact this
    intro a b ha hb'
    rw [hl] at ha hb'
    by_cases ea : a = z.length
    · by_cases eb : b = z.length
      · subst ea; subst eb
        rw [snoc_len]
        exact ⟨fun h => absurd rfl h, hd⟩
      · have hbl : b < z.length := by omega
        subst ea
        rw [snoc_len, snoc_lt z x b hbl]
        exact ⟨fun _ e => hn (e ▸ at_mem b hbl), (hb b hbl).1⟩
    · have hal : a < z.length := by omega
      by_cases eb : b = z.length
      · subst eb
        rw [snoc_len, snoc_lt z x a hal]
        exact ⟨fun _ e => hn (e ▸ at_mem a hal), (hb a hal).2⟩
      · have hbl : b < z.length := by omega
        rw [snoc_lt z x a hal, snoc_lt z x b hbl]
        exact g a b hal hbl
theorem good_nil (l m : List Int) : Good l m [] := fun a b ha _ => by simp at ha
theorem findP_some {n : Nat} {l m : List Int} : ∀ d z r, findP n l m d z = some r → (∀ x ∈ z, x < n) → Good l m z → Good l m r ∧ r.length = z.length + d ∧ (∀ x ∈ r, x < n) := by
  intro d
  induction d with
  | zero =>
    intro z r h hz g
    injection h with h
    subst h
    exact ⟨g, rfl, hz⟩
  | succ d ih =>
    intro z r h hz g
    unfold findP at h
    obtain ⟨x, hx, h⟩ := List.exists_of_findSome?_eq_some h
    split at h
    · rename_i hf
      have hxn : x < n := by simpa using hx
      obtain ⟨h1, h2, h3⟩ := ih (z ++ [x]) r h (fun y hy => by
        rcases List.mem_append.1 hy with hy | hy
        · exact hz y hy
        · simp at hy; omega) (good_snoc.2 ⟨g, hf⟩)
      exact ⟨h1, by simp at h2; omega, h3⟩
    · cases h
theorem good_left {l m : List Int} {t : List Nat} : ∀ z, Good l m (z ++ t) → Good l m z := by
  intro z g a b ha hb
  have h := g a b (by simp; omega) (by simp; omega)
  rw [List.getD_eq_getElem?_getD, List.getD_eq_getElem?_getD, List.getElem?_append_left ha, List.getElem?_append_left hb] at h
  rw [List.getD_eq_getElem?_getD, List.getD_eq_getElem?_getD]
  exact h
theorem findP_complete {n : Nat} {l m : List Int} : ∀ d z t, Good l m (z ++ t) → t.length = d → (∀ x ∈ t, x < n) → findP n l m d z ≠ none := by
  intro d
  induction d with
  | zero => intro z t _ _ _ h; cases h
  | succ d ih =>
    intro z t g ht hn h
    cases t with
    | nil => simp at ht
    | cons x t =>
      unfold findP at h
      have h := List.findSome?_eq_none_iff.1 h x (by simpa using hn x (by simp))
      have g' : Good l m ((z ++ [x]) ++ t) := by simpa using g
      rw [if_pos (good_snoc.1 (good_left _ g')).2] at h
      exact ih (z ++ [x]) t g' (by simpa using ht) (fun y hy => hn y (by simp [hy])) h
end Go.Proofs.YtfjpilcmjabikaaDoor.M
namespace Go.Proofs.YtfjpilcmjabikaaDoor.P
open Go.RowKit Go.Proofs.YtfjpilcmjabikaaDoorW.PrintWords Go.Proofs.YtfjpilcmjabikaaDoorW.PrintLast Go.Proofs.YtfjpilcmjabikaaDoorW.PrintMore
open Bool renaming true → T, false → F
open List renaming setIfInBounds_toArray → L_, set_cons_zero → M_, set_cons_succ → N_, map_toArray → P_, map_cons → Q_, map_nil → R_, length_drop → S_, length_take → U_
open Aside0 renaming mk → A_
attribute [local go_sem] max2_int min2_int max_two min_two max_three min_three max_four min_four
set_option linter.unusedVariables false
set_option linter.unusedSimpArgs false
attribute [local go_sem] fldOrder_0 fldOrder_1
def Abv.f (a0 : Int) (a1 : Int) (a2_0 : Int) (l2_1 : List Int) : Option (Bool) := (Aau.f a2_0 l2_1 a1 a0).bind fun t298 => (some t298)
def Abw.f (k : Nat) (a0_0 : Int) (l0_1 : List Int) : Option (Int × List Int) := (Abm.f k a0_0 (fun x0_ x1_ => Abv.f x0_ x1_ a0_0 l0_1)).bind fun bt301 => (some (bt301.1, bt301.2))
def Abu.f (k : Nat) (a0_0 : Int) (l0_1 : List Int) (l1 : List Int) : Option (Bool) := (Aaw.f k l1 0 (wrap64 (a0_0 - 1))).bind fun t965 => (some t965)
def Abx.f (a0_0 : Int) (l0_1 : List Int) : Option (Int) := if 0 ≤ a0_0 then (some (wrap64 ((shl .i64 1 a0_0) - 1))) else (none)
def Abn.l0 : Nat → List Int → Int → Int → Int → List Int → Int → List Int → Option (List Int)
 | 0,_,_,_,_,_,_,_=>none
 | k + 1,x3,x10,x11,x853000,x853001,x861000,x861001=>if x11 < x10 then ((Abx.f x853000 x853001).bind fun t861=>(if 0 ≤ x11 then (if x11 < (x853001.length : Int) then (if x11 < (x861001.length : Int) then (if x3.length < 17592186044416 then (Abn.l0 k (x3 ++ [Go.bits .andNot .i64 (Go.bits .andNot .i64 (Go.bits .andNot .i64 t861 (rd x853001 x11)) (rd x861001 x11)) (shl .i64 1 x11)]) x10 (wrap64 (x11 + 1)) x853000 x853001 x861000 x861001) else (none)) else (none)) else (none)) else (none))) else (some x3)
def Abn.f (k : Nat) (a0_0 : Int) (l0_1 : List Int) : Option (List Int) := (Abw.f k a0_0 l0_1).bind fun bt856 => (Abn.l0 k (([] : List Int)) a0_0 0 a0_0 l0_1 bt856.1 bt856.2)
end Go.Proofs.YtfjpilcmjabikaaDoor.P
namespace Go.Proofs.YtfjpilcmjabikaaDoor.P
open Go.RowKit Go.Proofs.YtfjpilcmjabikaaDoorW.PrintWords Go.Proofs.YtfjpilcmjabikaaDoorW.PrintLast Go.Proofs.YtfjpilcmjabikaaDoorW.PrintMore
open Bool renaming true → T, false → F
open List renaming setIfInBounds_toArray → L_, set_cons_zero → M_, set_cons_succ → N_, map_toArray → P_, map_cons → Q_, map_nil → R_, length_drop → S_, length_take → U_
open Aside0 renaming mk → A_
attribute [local go_sem] max2_int min2_int max_two min_two max_three min_three max_four min_four
set_option linter.unusedVariables false
set_option linter.unusedSimpArgs false
attribute [local go_sem] fldOrder_0 fldOrder_1
def Abt.l0 : Nat → Int → Int → List Int → Int → Int → Option (Int)
 | 0,_,_,_,_,_=>none
 | k + 1,x1,x5,x9,x10,x11=>if x11 < x10 then (if 0 ≤ x11 then (if x11 < (x9.length : Int) then ((Aay.f (rd x9 x11) x1).bind fun t817=>(if t817 = true then (Abt.l0 k x1 (Go.bits .or .i64 x5 (shl .i64 1 x11)) x9 x10 (wrap64 (x11 + 1))) else (Abt.l0 k x1 x5 x9 x10 (wrap64 (x11 + 1))))) else (none)) else (none)) else (some x5)
def Abt.f (k : Nat) (a0_0 : Int) (l0_1 : List Int) (a1 : Int) : Option (Int) := Abt.l0 k a1 0 l0_1 (l0_1.length : Int) 0
end Go.Proofs.YtfjpilcmjabikaaDoor.P
namespace Go.Proofs.YtfjpilcmjabikaaDoor.M
open Go.RowKit Go.Proofs.YtfjpilcmjabikaaDoorW.PrintMore Go.Proofs.YtfjpilcmjabikaaDoorW.PrintLast Go.Proofs.YtfjpilcmjabikaaDoorW.PrintWords Go.Proofs.YtfjpilcmjabikaaDoor.P
theorem setOf_bit_or (q : Nat → Bool) (j : Nat) : setOf (j + 1) q = if q j then setOf j q ||| 2 ^ j else setOf j q := by
  show setOf j q ||| (if q j then 2 ^ j else 0) = _
  cases q j <;> simp
end Go.Proofs.YtfjpilcmjabikaaDoor.M
namespace Go.Proofs.YtfjpilcmjabikaaDoor.M
open Go.RowKit Go.Proofs.YtfjpilcmjabikaaDoorW.PrintMore Go.Proofs.YtfjpilcmjabikaaDoorW.PrintLast Go.Proofs.YtfjpilcmjabikaaDoorW.PrintWords Go.Proofs.YtfjpilcmjabikaaDoor.P
def Tot {α : Type} (g : Nat → Option α) (Q : α → Prop) : Prop := ∃ r, Ev g r ∧ Q r
section
variable {α β : Type} {Q : α → Prop} {R : β → Prop}
theorem Tot.now {r : α} (h : Q r) : Tot (fun _ => some r) Q := ⟨r, Ev.now r, h⟩
theorem Tot.step {g f : Nat → Option α} (h : ∀ k, g (k + 1) = f k) (k : Tot f Q) : Tot g Q := by obtain ⟨r, k, hq⟩ := k; exact ⟨r, Ev.step h k, hq⟩
theorem Tot.bind {g : Nat → Option α} {f : Nat → α → Option β} (h : Tot g Q) (k : ∀ a, Q a → Tot (fun n => f n a) R) : Tot (fun n => (g n).bind (f n)) R := by
  obtain ⟨a, h, hq⟩ := h
  obtain ⟨r, k, hr⟩ := k a hq
  exact ⟨r, Ev.bind h k, hr⟩
theorem Tot.ebind {g : Nat → Option α} {f : Nat → α → Option β} {a : α} (h : Ev g a) (k : Tot (fun n => f n a) R) : Tot (fun n => (g n).bind (f n)) R := by
  obtain ⟨r, k, hr⟩ := k
  exact ⟨r, Ev.bind h k, hr⟩
theorem Tot.obind {x : Option α} {f : Nat → α → Option β} (h : ∃ r, x = some r ∧ Q r) (k : ∀ a, Q a → Tot (fun n => f n a) R) : Tot (fun n => x.bind (f n)) R := by
  obtain ⟨a, rfl, hq⟩ := h
  exact k a hq
theorem Tot.ite {c : Prop} [Decidable c] {f g : Nat → Option α} (h1 : c → Tot f Q) (h2 : ¬ c → Tot g Q) : Tot (fun k => if c then f k else g k) Q := by
  by_cases h : c
  · simp only [if_pos h]; exact h1 h
  · simp only [if_neg h]; exact h2 h
theorem Tot.up {S : Type} (G : Nat → S → Nat → Option α) (n : Nat) (Inv : Nat → S → Prop)
    (step : ∀ i s, i < n → Inv i s → (∀ s', Inv (i + 1) s' → Tot (G (i + 1) s') Q) → Tot (G i s) Q) (stop : ∀ s, Inv n s → Tot (G n s) Q) (i : Nat) (hi : i ≤ n) (s : S) (hs : Inv i s) : Tot (G i s) Q := by
  obtain ⟨d, rfl⟩ : ∃ d, n = i + d := ⟨n - i, by omega⟩
  clear hi
  induction d generalizing i s with
  | zero => exact stop s hs
  | succ d ih =>
    refine step i s (by omega) hs fun s' h' => ?_
    exact ih (i + 1) s' h' (fun a b ha => step a b (by omega)) (by rw [show i + 1 + d = i + (d + 1) by omega]; exact stop)
end
def By (l : List Int) : Prop := ∀ x ∈ l, 0 ≤ x ∧ x ≤ 255
theorem by_wf {l : List Int} (h : ∀ x ∈ l, (Lit.int .u8 x).wf = true) : By l := by
  intro x hx
  have := h x hx
  simp [Lit.wf, IntKind.min, IntKind.max, IntKind.signed, IntKind.bits] at this
  omega
theorem By.rd {l : List Int} (h : By l) (i : Nat) : 0 ≤ rd l (i : Int) ∧ rd l (i : Int) ≤ 255 := by
  rw [rd_nat]
  by_cases hi : i < l.length
  · have := h l[i] (List.getElem_mem hi)
    simpa [hi] using this
  · simp [Nat.not_lt.1 hi]
theorem and_255 (x : Int) : 0 ≤ Go.bits .and .u64 x 255 ∧ Go.bits .and .u64 x 255 ≤ 255 := by
  have e : Go.bits .and .u64 x 255 = IntKind.u64.wrap (((BitVec.ofInt 64 x).toNat &&& 255 : Nat) : Int) := by
    show IntKind.u64.wrap ((BitVec.ofInt 64 x &&& BitVec.ofInt 64 255).toNat : Int) = _
    rw [BitVec.toNat_and]; rfl
  have h : (BitVec.ofInt 64 x).toNat &&& 255 ≤ 255 := Nat.and_le_right
  rw [e, u64_small _ (by omega)]
  omega
theorem wrap64_in (x : Int) (h0 : -9223372036854775808 ≤ x) (h1 : x ≤ 9223372036854775807) : wrap64 x = x := by unfold wrap64; omega
theorem next_ok {l : List Int} (hb : By l) (p h : Int) (hp : 0 ≤ p) (hp2 : p ≤ 1000000) : ∃ r, Abe.f l p h = some r ∧ 0 ≤ r.1 ∧ r.1 ≤ 255 ∧ r.2.1 = p + 1 := by
  unfold Abe.f
  obtain ⟨i, rfl⟩ := Int.eq_ofNat_of_zero_le hp
  have h1 := hb.rd i
  rw [wrap64_in ((i : Int) + 1) (by omega) (by omega)]
  have ha := fun x => and_255 x
  by_cases h0 : (i : Int) < (l.length : Int)
  · rw [if_pos h0, if_pos hp, if_pos (show (i : Int) + 1 ≤ (l.length : Int) by omega)]
    exact ⟨_, rfl, by rw [wrap64_in _ (by omega) (by omega)]; omega, by rw [wrap64_in _ (by omega) (by omega)]; omega, rfl⟩
  · rw [if_neg h0, if_neg (show ¬ (i : Int) + 1 ≤ (l.length : Int) by omega)]
    refine ⟨_, rfl, ?_, ?_, rfl⟩
    · have := ha ((IntKind.u64.wrap (IntKind.u64.wrap (IntKind.u64.wrap (h * 6364136223846793005)) + 1442695040888963407)) / 1099511627776)
      rw [wrap64_in _ (by omega) (by omega)]; exact this.1
    · have := ha ((IntKind.u64.wrap (IntKind.u64.wrap (IntKind.u64.wrap (h * 6364136223846793005)) + 1442695040888963407)) / 1099511627776)
      rw [wrap64_in _ (by omega) (by omega)]; exact this.2
theorem pick_ok {l : List Int} (hb : By l) (p h a : Int) (hp : 0 ≤ p) (hp2 : p ≤ 999990) : ∃ r, Aaf.f l p h a = some r ∧ 0 ≤ r.1 ∧ (r.1 = 0 ∨ r.1 < a) ∧ p ≤ r.2.1 ∧ r.2.1 ≤ p + 2 := by
  unfold Aaf.f
  by_cases h1 : a ≤ 1
  · rw [if_pos h1]; exact ⟨_, rfl, by simp, by simp, by simp, by simp; omega⟩
  · rw [if_neg h1]
    obtain ⟨⟨v, p1, h'⟩, e, a1, a2, a3⟩ := next_ok hb p h hp (by omega)
    simp only at a1 a2 a3
    subst a3
    rw [e, Option.bind_some]
    by_cases h2 : a > 200
    · rw [if_pos h2]
      obtain ⟨⟨v2, p2, h''⟩, e2, b1, b2, b3⟩ := next_ok hb (p + 1) h' (by omega) (by omega)
      simp only at b1 b2 b3
      subst b3
      rw [e2, Option.bind_some, if_neg (by omega)]
      refine ⟨_, rfl, ?_, ?_, by simp; omega, by simp; omega⟩
      all_goals
        simp only
        rw [wrap64_in (v * 256) (by omega) (by omega), wrap64_in (v * 256 + v2) (by omega) (by omega), Int.tmod_eq_emod_of_nonneg (by omega)]
      · exact Int.emod_nonneg _ (by omega)
      · exact .inr (Int.emod_lt_of_pos _ (by omega))
    · rw [if_neg h2, if_neg (by omega)]
      refine ⟨_, rfl, ?_, ?_, by simp only; omega, by simp only; omega⟩
      all_goals
        simp only
        rw [Int.tmod_eq_emod_of_nonneg (by omega)]
      · exact Int.emod_nonneg _ (by omega)
      · exact .inr (Int.emod_lt_of_pos _ (by omega))
theorem one_ok {l : List Int} (hb : By l) (p h a : Int) (hp : 0 ≤ p) (hp2 : p ≤ 999990) : ∃ r, Aav.f l p h a = some r ∧ p ≤ r.2.1 ∧ r.2.1 ≤ p + 2 := by
  obtain ⟨r, e, h1⟩ := pick_ok hb p h a hp hp2
  unfold Aav.f
  rw [e]
  exact ⟨_, rfl, h1.2.2.1, h1.2.2.2⟩
theorem among_ok {l : List Int} (hb : By l) (p h : Int) (z : List Int) (hz : z ≠ []) (hp : 0 ≤ p) (hp2 : p ≤ 999990) : ∃ r, Aa1.f l p h z = some r ∧ r.1 ∈ z ∧ p ≤ r.2.1 ∧ r.2.1 ≤ p + 2 := by
  obtain ⟨r, e, h1, h2, h3⟩ := pick_ok hb p h (z.length : Int) hp hp2
  have hz' := List.length_pos_iff.2 hz
  unfold Aa1.f
  rw [e, Option.bind_some, if_pos h1, if_pos (by omega)]
  refine ⟨_, rfl, ?_, h3⟩
  obtain ⟨i, hi⟩ := Int.eq_ofNat_of_zero_le h1
  simp only [hi]
  rw [rd_get z i (by omega)]
  exact List.getElem_mem _
theorem orHas_ok (s j : Int) (hj : 0 ≤ j) : ∃ r, Aay.f s j = some r ∧ True := by unfold Aay.f; rw [if_pos hj]; exact ⟨_, rfl, trivial⟩
theorem l1Own_eq (l : List Int) (h : l.length < 17592186044416) : Abd.f l = some l := by
  unfold Abd.f
  simp [h]
theorem close_tot (n : Int) (l : List Int) (hl : l.length ≤ 140737488355328) : Tot (fun k => Aae.f k n l) (fun r => 0 ≤ r.1 ∧ (r.1 = 0 ∨ r.1 = n) ∧ r.1 ≤ 10 ∧ (r.2.1.length : Int) = r.1 ∧ r.2.2 = isRel n l) := by
  unfold Aae.f
  refine Tot.ebind (orRelation_ev n l hl) ?_
  cases hr : isRel n l with
  | false => simp only [Bool.false_eq_true, if_false]; exact Tot.now (by simp)
  | true =>
    obtain ⟨m, rfl, h⟩ := isRel_iff.1 hr
    have hlen := h.len
    have h10 := h.le
    simp only [if_true, l1Own_eq l (by omega), Option.bind_some, hlen]
    refine Tot.up (fun i s k => Aae.l0 k (m : Int) (i : Int) (m : Int) s) m (fun _ s => s.length = m) ?_ ?_ 0 (Nat.zero_le _) l hlen
    · intro i s hi hs next
      refine Tot.step (fun _ => rfl) ?_
      simp only [Aae.l0, if_pos (show (i : Int) < (m : Int) by omega), hs]
      refine Tot.up (fun j s k => Aae.l1 k (i : Int) (m : Int) (i : Int) (m : Int) (j : Int) (m : Int) s) m (fun _ s => s.length = m) ?_ ?_ 0 (Nat.zero_le _) s hs
      · intro j s hj hs next
        refine Tot.step (fun _ => rfl) ?_
        simp only [Aae.l1, hs, if_pos (show (j : Int) < (m : Int) by omega), if_pos (show (i : Int) < (m : Int) by omega), if_pos (show (0 : Int) ≤ (i : Int) by omega), if_pos (show (0 : Int) ≤ (j : Int) by omega), next64 j m hj (by omega)]
        refine Tot.obind (orHas_ok _ _ (by omega)) fun b _ => ?_
        refine Tot.ite (fun _ => ?_) (fun _ => ?_)
        · exact next _ (by simpa using hs)
        · exact next _ hs
      · intro s hs
        refine Tot.step (fun _ => rfl) ?_
        simp only [Aae.l1, if_neg (show ¬ (m : Int) < (m : Int) by omega), next64 i m hi (by omega)]
        exact next _ hs
    · intro s hs
      refine Tot.step (fun _ => rfl) ?_
      simp only [Aae.l0, if_neg (show ¬ (m : Int) < (m : Int) by omega)]
      exact Tot.now (by simp [hs]; omega)
theorem order_tot {l : List Int} (hb : By l) (p h a : Int) (hp : 0 ≤ p) (hp2 : p ≤ 999000) (ha0 : 0 ≤ a) (ha : a ≤ 10) :
    Tot (fun k => Aac.f k l p h a) (fun r => 0 ≤ r.1 ∧ r.1 ≤ a ∧ (r.2.1.length : Int) = r.1 ∧ p ≤ r.2.2.1 ∧ r.2.2.1 ≤ p + 400) := by
  unfold Aac.f
  rw [wrap64_in (a + 1) (by omega) (by omega)]
  refine Tot.obind (pick_ok hb p h (a + 1) hp (by omega)) ?_
  rintro ⟨n, p1, h1⟩ ⟨n0, n1, n2, n3⟩
  simp only at n0 n1 n2 n3
  simp only [if_pos n0]
  obtain ⟨m, rfl⟩ := Int.eq_ofNat_of_zero_le n0
  have hm : m ≤ 10 := by omega
  rw [Int.toNat_natCast]
  simp only [if_pos (show m ≤ 35184372088832 by omega)]
  refine Tot.obind (pick_ok hb p1 h1 3 (by omega) (by omega)) ?_
  rintro ⟨kd, p2, h2⟩ ⟨k0, k1, k2, k3⟩
  simp only at k0 k1 k2 k3
  refine Tot.up (fun i (s : List Int × List Int × Int × Int) k => Aac.l0 k (m : Int) kd s.1 s.2.1 (i : Int) l s.2.2.1 s.2.2.2 (m : Int) (List.replicate m 0)) m
    (fun i s => s.1.length = i ∧ s.2.1.length = i ∧ p ≤ s.2.2.1 ∧ s.2.2.1 ≤ p + 4 + 4 * (i : Int)) ?_ ?_ 0 (Nat.zero_le _) ([], [], p2, h2) ⟨rfl, rfl, by simp only; omega, by simp only; omega⟩
  · rintro i ⟨x8, x9, p3, h3⟩ hi ⟨s1, s2, s3, s4⟩ next
    simp only at s1 s2 s3 s4
    refine Tot.step (fun _ => rfl) ?_
    simp only [Aac.l0, if_pos (show (i : Int) < (m : Int) by omega), s1, s2, if_pos (show i < 17592186044416 by omega), next64 i m hi (by omega)]
    refine Tot.obind (pick_ok hb p3 h3 8 (by omega) (by omega)) ?_
    rintro ⟨v, p4, h4⟩ ⟨v0, v1, v2, v3⟩
    simp only at v0 v1 v2 v3
    simp only [Option.bind_some]
    refine Tot.ite (fun _ => ?_) (fun _ => ?_)
    · refine Tot.obind (pick_ok hb p4 h4 4 (by omega) (by omega)) ?_
      rintro ⟨v', p5, h5⟩ ⟨u0, u1, u2, u3⟩
      simp only at u0 u1 u2 u3
      exact next (_, _, _, _) ⟨by simp [s1], by simp [s2], by simp only; omega, by simp only; omega⟩
    · exact next (_, _, _, _) ⟨by simp [s1], by simp [s2], by simp only; omega, by simp only; omega⟩
  · rintro ⟨x8, x9, p3, h3⟩ ⟨s1, s2, s3, s4⟩
    simp only at s1 s2 s3 s4
    refine Tot.step (fun _ => rfl) ?_
    simp only [Aac.l0, if_neg (show ¬ (m : Int) < (m : Int) by omega)]
    refine Tot.up (fun i (s : Int × Int × List Int) k => Aac.l1 k (m : Int) kd x8 x9 (i : Int) l s.1 s.2.1 (m : Int) s.2.2) m
      (fun i s => p ≤ s.1 ∧ s.1 ≤ p + 44 + 22 * (i : Int) ∧ s.2.2.length = m) ?_ ?_ 0 (Nat.zero_le _) (p3, h3, List.replicate m 0) ⟨by simp only; omega, by simp only; omega, by simp⟩
    · rintro i ⟨p4, h4, z⟩ hi ⟨t1, t2, t3⟩ next
      simp only at t1 t2 t3
      refine Tot.step (fun _ => rfl) ?_
      simp only [Aac.l1, if_pos (show (i : Int) < (m : Int) by omega)]
      refine Tot.up (fun j (s : Int × Int × List Int) k => Aac.l2 k (m : Int) kd x8 x9 (i : Int) (j : Int) l s.1 s.2.1 (m : Int) s.2.2) m
        (fun j s => p ≤ s.1 ∧ s.1 ≤ p + 44 + 22 * (i : Int) + 2 * (j : Int) ∧ s.2.2.length = m) ?_ ?_ 0 (Nat.zero_le _) (p4, h4, z) ⟨by simp only; omega, by simp only; omega, t3⟩
      · rintro j ⟨p5, h5, z⟩ hj ⟨q1, q2, q3⟩ next
        simp only at q1 q2 q3
        have hone : ∀ v p' h' , p ≤ p' → p' ≤ p5 + 2 → Tot (fun k => Aac.l2 k (m : Int) kd x8 x9 (i : Int) ((j + 1 : Nat) : Int) l p' h' (m : Int) (z.set i v)) _ := fun v p' h' a1 a2 => next (p', h', z.set i v) ⟨a1, by simp only; omega, by simpa using q3⟩
        have hno : ∀ p' h' , p ≤ p' → p' ≤ p5 + 2 → Tot (fun k => Aac.l2 k (m : Int) kd x8 x9 (i : Int) ((j + 1 : Nat) : Int) l p' h' (m : Int) z) _ := fun p' h' a1 a2 => next (p', h', z) ⟨a1, by simp only; omega, q3⟩
        refine Tot.step (fun _ => rfl) ?_
        simp only [Aac.l2, if_pos (show (j : Int) < (m : Int) by omega), s1, s2, q3, if_pos (show (i : Int) < (m : Int) by omega), if_pos (show (0 : Int) ≤ (i : Int) by omega), if_pos (show (0 : Int) ≤ (j : Int) by omega), next64 j m hj (by omega), Int.toNat_natCast]
        refine Tot.ite (fun _ => ?_) (fun _ => ?_)
        · refine Tot.ite (fun _ => ?_) (fun _ => ?_)
          · exact hone _ _ _ (by omega) (by omega)
          · refine Tot.ite (fun _ => ?_) (fun _ => hno _ _ (by omega) (by omega))
            refine Tot.ite (fun _ => ?_) (fun _ => hno _ _ (by omega) (by omega))
            refine Tot.obind (one_ok hb p5 h5 3 (by omega) (by omega)) ?_
            rintro ⟨v, p6, h6⟩ ⟨u2, u3⟩
            simp only at u2 u3
            dsimp only
            exact Tot.ite (fun _ => hone _ _ _ (by omega) (by omega)) (fun _ => hno _ _ (by omega) (by omega))
        · refine Tot.ite (fun _ => ?_) (fun _ => hno _ _ (by omega) (by omega))
          refine Tot.ite (fun _ => ?_) (fun _ => hno _ _ (by omega) (by omega))
          refine Tot.obind (one_ok hb p5 h5 3 (by omega) (by omega)) ?_
          rintro ⟨v, p6, h6⟩ ⟨u2, u3⟩
          simp only at u2 u3
          dsimp only
          exact Tot.ite (fun _ => hone _ _ _ (by omega) (by omega)) (fun _ => hno _ _ (by omega) (by omega))
      · rintro ⟨p5, h5, z⟩ ⟨q1, q2, q3⟩
        simp only at q1 q2 q3
        refine Tot.step (fun _ => rfl) ?_
        simp only [Aac.l2, if_neg (show ¬ (m : Int) < (m : Int) by omega), next64 i m hi (by omega)]
        exact next (p5, h5, z) ⟨q1, by simp only; omega, q3⟩
    · rintro ⟨p4, h4, z⟩ ⟨t1, t2, t3⟩
      simp only at t1 t2 t3
      refine Tot.step (fun _ => rfl) ?_
      simp only [Aac.l1, if_neg (show ¬ (m : Int) < (m : Int) by omega)]
      refine Tot.ite (fun _ => Tot.now ⟨by simp only; omega, by simp only; omega, by simp only; omega, by simp only; omega, by simp only; omega⟩) (fun _ => ?_)
      refine Tot.bind (close_tot (m : Int) z (by omega)) ?_
      rintro ⟨a1, a2, a3⟩ ⟨c1, c2, c3, c4⟩
      exact Tot.now ⟨by simp only; omega, by simp only at c2 ⊢; omega, by simp only at c4 ⊢; omega, by simp only; omega, by simp only; omega⟩
theorem relation_tot {l : List Int} (hb : By l) (p h a : Int) (hp : 0 ≤ p) (hp2 : p ≤ 999000) (ha0 : 0 ≤ a) (ha : a ≤ 10) :
    Tot (fun k => Aaj.f k l p h a) (fun r => 0 ≤ r.1 ∧ r.1 ≤ a ∧ (r.2.1.length : Int) = r.1 ∧ p ≤ r.2.2.1 ∧ r.2.2.1 ≤ p + 400) := by
  unfold Aaj.f
  rw [wrap64_in (a + 1) (by omega) (by omega)]
  refine Tot.obind (pick_ok hb p h (a + 1) hp (by omega)) ?_
  rintro ⟨n, p1, h1⟩ ⟨n0, n1, n2, n3⟩
  simp only at n0 n1 n2 n3
  obtain ⟨m, rfl⟩ := Int.eq_ofNat_of_zero_le n0
  have hm : m ≤ 10 := by omega
  refine Tot.up (fun i (s : Int × Int × List Int) k => Aaj.l0 k l s.1 s.2.1 (m : Int) s.2.2) m
    (fun i s => p ≤ s.1 ∧ s.1 ≤ p + 2 + 20 * (i : Int) ∧ s.2.2.length = i) ?_ ?_ 0 (Nat.zero_le _) (p1, h1, []) ⟨by simp only; omega, by simp only; omega, rfl⟩
  · rintro i ⟨p2, h2, z⟩ hi ⟨s1, s2, s3⟩ next
    simp only at s1 s2 s3
    refine Tot.step (fun _ => rfl) ?_
    simp only [Aaj.l0, s3, if_pos (show (i : Int) < (m : Int) by omega)]
    refine Tot.up (fun j (s : Int × Int × Int) k => Aaj.l1 k s.1 (j : Int) l s.2.1 s.2.2 (m : Int) z) m
      (fun j s => p ≤ s.2.1 ∧ s.2.1 ≤ p + 2 + 20 * (i : Int) + 2 * (j : Int)) ?_ ?_ 0 (Nat.zero_le _) (0, p2, h2) ⟨by simp only; omega, by simp only; omega⟩
    · rintro j ⟨x, p3, h3⟩ hj ⟨q1, q2⟩ next
      simp only at q1 q2
      refine Tot.step (fun _ => rfl) ?_
      simp only [Aaj.l1, if_pos (show (j : Int) < (m : Int) by omega), if_pos (show (0 : Int) ≤ (j : Int) by omega), next64 j m hj (by omega)]
      refine Tot.obind (one_ok hb p3 h3 4 (by omega) (by omega)) ?_
      rintro ⟨v, p6, h6⟩ ⟨u2, u3⟩
      simp only at u2 u3
      dsimp only
      exact Tot.ite (fun _ => next (_, p6, h6) ⟨by simp only; omega, by simp only; omega⟩) (fun _ => next (_, p6, h6) ⟨by simp only; omega, by simp only; omega⟩)
    · rintro ⟨x, p3, h3⟩ ⟨q1, q2⟩
      simp only at q1 q2
      refine Tot.step (fun _ => rfl) ?_
      simp only [Aaj.l1, if_neg (show ¬ (m : Int) < (m : Int) by omega), s3, if_pos (show i < 17592186044416 by omega)]
      exact next (p3, h3, z ++ [x]) ⟨q1, by simp only; omega, by simp [s3]⟩
  · rintro ⟨p2, h2, z⟩ ⟨s1, s2, s3⟩
    simp only at s1 s2 s3
    refine Tot.step (fun _ => rfl) ?_
    simp only [Aaj.l0, s3, if_neg (show ¬ (m : Int) < (m : Int) by omega)]
    exact Tot.now ⟨by simp only; omega, by simp only; omega, by simp only; omega, by simp only; omega, by simp only; omega⟩
theorem anyOrder_tot {l : List Int} (hb : By l) (p h a : Int) (hp : 0 ≤ p) (hp2 : p ≤ 998000) (ha0 : 0 ≤ a) (ha : a ≤ 10) :
    Tot (fun k => Aam.f k l p h a) (fun r => r.2.1.length ≤ 10 ∧ p ≤ r.2.2.1 ∧ r.2.2.1 ≤ p + 900) := by
  unfold Aam.f
  refine Tot.bind (order_tot hb p h a hp (by omega) ha0 ha) ?_
  rintro ⟨n, z, p1, h1⟩ ⟨n0, n1, n2, n3, n4⟩
  simp only at n0 n1 n2 n3 n4
  refine Tot.obind (pick_ok hb p1 h1 14 (by omega) (by omega)) ?_
  rintro ⟨c, p2, h2⟩ ⟨k0, k1, k2, k3⟩
  simp only at k0 k1 k2 k3
  simp only []
  refine Tot.ite (fun _ => ?_) (fun _ => Tot.ite (fun _ => ?_) (fun _ => Tot.ite (fun _ => ?_) (fun _ => Tot.ite (fun _ => ?_) (fun _ => ?_))))
  · refine Tot.bind (relation_tot hb p2 h2 a (by omega) (by omega) ha0 ha) ?_
    rintro ⟨n', z', p', h'⟩ ⟨m0, m1, m2, m3, m4⟩
    simp only at m0 m1 m2 m3 m4
    exact Tot.now ⟨by simp only; omega, by simp only; omega, by simp only; omega⟩
  · refine Tot.obind (among_ok hb p2 h2 _ (by simp) (by omega) (by omega)) ?_
    rintro ⟨v, p', h'⟩ ⟨_, m3, m4⟩
    simp only at m3 m4
    exact Tot.now ⟨by simp only; omega, by simp only; omega, by simp only; omega⟩
  · refine Tot.ite (fun hz => ?_) (fun _ => Tot.now ⟨by simp only; omega, by simp only; omega, by simp only; omega⟩)
    refine Tot.obind (pick_ok hb p2 h2 _ (by omega) (by omega)) ?_
    rintro ⟨v, p', h'⟩ ⟨v0, v1, m3, m4⟩
    simp only at v0 v1 m3 m4
    simp only [if_pos n0]
    refine Tot.obind (among_ok hb p' h' _ (by simp) (by omega) (by omega)) ?_
    rintro ⟨v', p'', h''⟩ ⟨_, m5, m6⟩
    simp only at m5 m6
    simp only [if_pos v0]
    rw [if_pos (show v < (z.length : Int) by omega)]
    exact Tot.now ⟨by simp only [List.length_set]; omega, by simp only; omega, by simp only; omega⟩
  · refine Tot.bind (order_tot hb p2 h2 10 (by omega) (by omega) (by omega) (by omega)) ?_
    rintro ⟨n', z', p', h'⟩ ⟨m0, m1, m2, m3, m4⟩
    simp only at m0 m1 m2 m3 m4
    exact Tot.now ⟨by simp only; omega, by simp only; omega, by simp only; omega⟩
  · exact Tot.now ⟨by simp only; omega, by simp only; omega, by simp only; omega⟩
end Go.Proofs.YtfjpilcmjabikaaDoor.M
namespace Go.Proofs.YtfjpilcmjabikaaDoor.P
open Go.RowKit Go.Proofs.YtfjpilcmjabikaaDoorW.PrintWords Go.Proofs.YtfjpilcmjabikaaDoorW.PrintLast Go.Proofs.YtfjpilcmjabikaaDoorW.PrintMore
open Bool renaming true → T, false → F
open List renaming setIfInBounds_toArray → L_, set_cons_zero → M_, set_cons_succ → N_, map_toArray → P_, map_cons → Q_, map_nil → R_, length_drop → S_, length_take → U_
open Aside0 renaming mk → A_
attribute [local go_sem] max2_int min2_int max_two min_two max_three min_three max_four min_four
set_option linter.unusedVariables false
set_option linter.unusedSimpArgs false
attribute [local go_sem] fldOrder_0 fldOrder_1
def Aby.f (k : Nat) (a0_0 : Int) (l0_1 : List Int) (a1 : Int) : Option (Int × Bool) := (Aal.f k a0_0 l0_1).bind fun t974 => (if t974 = true then ((Abu.f k a0_0 l0_1 (([a1] : List Int))).bind fun t978 => (if t978 = true then ((Abn.f k a0_0 l0_1).bind fun t979 => (if 0 ≤ a1 then (if a1 < (t979.length : Int) then (some (rd t979 a1, true)) else (none)) else (none))) else (some (0, false)))) else (some (0, false)))
end Go.Proofs.YtfjpilcmjabikaaDoor.P
namespace Go.Proofs.YtfjpilcmjabikaaDoor.P
open Go.RowKit Go.Proofs.YtfjpilcmjabikaaDoorW.PrintWords Go.Proofs.YtfjpilcmjabikaaDoorW.PrintLast Go.Proofs.YtfjpilcmjabikaaDoorW.PrintMore
open Bool renaming true → T, false → F
open List renaming setIfInBounds_toArray → L_, set_cons_zero → M_, set_cons_succ → N_, map_toArray → P_, map_cons → Q_, map_nil → R_, length_drop → S_, length_take → U_
open Aside0 renaming mk → A_
attribute [local go_sem] max2_int min2_int max_two min_two max_three min_three max_four min_four
set_option linter.unusedVariables false
set_option linter.unusedSimpArgs false
attribute [local go_sem] fldOrder_0 fldOrder_1
def Ab0.f (k : Nat) (a0_0 : Int) (l0_1 : List Int) (a1 : Int) (a2 : Int) : Option (Bool × Bool) := (Aal.f k a0_0 l0_1).bind fun t967 => (if t967 = true then ((Abu.f k a0_0 l0_1 (([a1, a2] : List Int))).bind fun t971 => (if t971 = true then ((Aau.f a0_0 l0_1 a1 a2).bind fun t972 => (some (t972, true))) else (some (false, false)))) else (some (false, false)))
end Go.Proofs.YtfjpilcmjabikaaDoor.P
namespace Go.Proofs.YtfjpilcmjabikaaDoor.M
open Go.RowKit Go.Proofs.YtfjpilcmjabikaaDoorW.PrintMore Go.Proofs.YtfjpilcmjabikaaDoorW.PrintLast Go.Proofs.YtfjpilcmjabikaaDoorW.PrintWords Go.Proofs.YtfjpilcmjabikaaDoor.P
def mir (n : Nat) (l : List Int) : List Int := relL n fun i j => B l j i
theorem rel_is {n : Nat} {l : List Int} (h : Rel n l) : isRel n l = true := isRel_iff.2 ⟨n, rfl, h⟩
theorem pIn_eq (s j : Nat) (hj : j ≤ 64) : Aax.f (s : Int) (j : Int) = some (s.testBit j) := by
  unfold Aax.f
  rw [if_pos (by omega), has_mod _ _ (by omega) hj, bit_cast]
theorem pSame_ev (l l' : List Int) (hl : l.length ≤ 140737488355328) : Ev (fun k => Aa7.f k l l') (decide (l = l')) := by
  unfold Aa7.f
  by_cases h : (l.length : Int) = (l'.length : Int)
  · simp only [if_pos h]
    refine Ev.to (Ev.all (fun i k => Aa7.l0 k l l' (l.length : Int) (i : Int)) l.length (fun i => decide (l.getD i 0 = l'.getD i 0)) ?_ ?_ ?_) ?_
    · intro i r hi hp next
      refine Ev.step (fun _ => rfl) ?_
      simp only [Aa7.l0, if_pos (show (i : Int) < (l.length : Int) by omega), if_pos (show (0 : Int) ≤ (i : Int) by omega), if_pos (show (i : Int) < (l'.length : Int) by omega), rd_nat, if_pos (of_decide_eq_true hp), next64 i l.length hi (by omega)]
      exact next
    · intro i hi hp
      refine Ev.step (fun _ => rfl) ?_
      simp only [Aa7.l0, if_pos (show (i : Int) < (l.length : Int) by omega), if_pos (show (0 : Int) ≤ (i : Int) by omega), if_pos (show (i : Int) < (l'.length : Int) by omega), rd_nat, if_neg (of_decide_eq_false hp)]
      exact Ev.now _
    · refine Ev.step (fun _ => rfl) ?_
      simp only [Aa7.l0, if_neg (show ¬ (l.length : Int) < (l.length : Int) by omega)]
      exact Ev.now _
    · rw [Bool.eq_iff_iff, allB_iff, decide_eq_true_iff]
      constructor
      · intro H
        exact list_ext_getD (by omega) fun i hi => of_decide_eq_true (H i hi)
      · rintro rfl i _
        simp
  · simp only [if_neg h]
    refine Ev.to (Ev.now _) ?_
    symm
    rw [decide_eq_false_iff_not]
    rintro rfl
    exact h rfl
theorem pSameOrder_ev (n m : Int) (l l' : List Int) (hl : l.length ≤ 140737488355328) : Ev (fun k => Abk.f k n l m l') (decide (n = m ∧ l = l')) := by
  unfold Abk.f
  by_cases h : n = m
  · simp only [if_pos h]
    refine Ev.bind (pSame_ev l l' hl) (Ev.to (Ev.now _) (by simp [h]))
  · simp only [if_neg h]
    exact Ev.to (Ev.now _) (by simp [h])
end Go.Proofs.YtfjpilcmjabikaaDoor.M
namespace Go.Proofs.YtfjpilcmjabikaaDoor.P
open Go.RowKit Go.Proofs.YtfjpilcmjabikaaDoorW.PrintWords Go.Proofs.YtfjpilcmjabikaaDoorW.PrintLast Go.Proofs.YtfjpilcmjabikaaDoorW.PrintMore
open Bool renaming true → T, false → F
open List renaming setIfInBounds_toArray → L_, set_cons_zero → M_, set_cons_succ → N_, map_toArray → P_, map_cons → Q_, map_nil → R_, length_drop → S_, length_take → U_
open Aside0 renaming mk → A_
attribute [local go_sem] max2_int min2_int max_two min_two max_three min_three max_four min_four
set_option linter.unusedVariables false
set_option linter.unusedSimpArgs false
attribute [local go_sem] fldOrder_0 fldOrder_1
mutual
def Abj.l0 : Nat → Int → Int → Int → List Int → Int → List Int → Option (Int × List Int)
 | 0,_,_,_,_,_,_=>none
 | k + 1,x13,x14,x259000,x259001,x264000,x264001=>if x14 < x13 then (Abj.l1 k x14 x13 x14 x259000 0 x259000 x259001 x264000 x264001) else (some (x264000,x264001))
def Abj.l1 : Nat → Int → Int → Int → Int → Int → Int → List Int → Int → List Int → Option (Int × List Int)
 | 0,_,_,_,_,_,_,_,_,_=>none
 | k + 1,x4,x13,x14,x18,x19,x259000,x259001,x264000,x264001=>if x19 < x18 then ((Aau.f x264000 x264001 x19 x4).bind fun t264=>(if t264 = true then (if 0 ≤ x19 then (if x19 < (x264001.length : Int) then (if 0 ≤ x4 then (if x4 < (x264001.length : Int) then (Abj.l1 k x4 x13 x14 x18 (wrap64 (x19 + 1)) x259000 x259001 x264000 (x264001.set (x19 : Int).toNat (Go.bits .or .i64 (rd x264001 x19) (rd x264001 x4)))) else (none)) else (none)) else (none)) else (none)) else (Abj.l1 k x4 x13 x14 x18 (wrap64 (x19 + 1)) x259000 x259001 x264000 x264001))) else (Abj.l0 k x13 (wrap64 (x14 + 1)) x259000 x259001 x264000 x264001)
end
def Abj.f (k : Nat) (a0_0 : Int) (l0_1 : List Int) : Option (Int × List Int) := (Aaz.f l0_1).bind fun t260 => (Abj.l0 k a0_0 0 a0_0 l0_1 a0_0 t260)
end Go.Proofs.YtfjpilcmjabikaaDoor.P
namespace Go.Proofs.YtfjpilcmjabikaaDoor.P
open Go.RowKit Go.Proofs.YtfjpilcmjabikaaDoorW.PrintWords Go.Proofs.YtfjpilcmjabikaaDoorW.PrintLast Go.Proofs.YtfjpilcmjabikaaDoorW.PrintMore
open Bool renaming true → T, false → F
open List renaming setIfInBounds_toArray → L_, set_cons_zero → M_, set_cons_succ → N_, map_toArray → P_, map_cons → Q_, map_nil → R_, length_drop → S_, length_take → U_
open Aside0 renaming mk → A_
attribute [local go_sem] max2_int min2_int max_two min_two max_three min_three max_four min_four
set_option linter.unusedVariables false
set_option linter.unusedSimpArgs false
attribute [local go_sem] fldOrder_0 fldOrder_1
def Abz.f (k : Nat) (a0_0 : Int) (l0_1 : List Int) : Option (Int × List Int × Bool) := (Aal.f k a0_0 l0_1).bind fun t270 => (if t270 = true then ((Abj.f k a0_0 l0_1).bind fun bt271 => (some (bt271.1, bt271.2, true))) else (some (0, ([] : List Int), false)))
end Go.Proofs.YtfjpilcmjabikaaDoor.P
namespace Go.Proofs.YtfjpilcmjabikaaDoor.M
open Go.RowKit Go.Proofs.YtfjpilcmjabikaaDoorW.PrintMore Go.Proofs.YtfjpilcmjabikaaDoorW.PrintLast Go.Proofs.YtfjpilcmjabikaaDoorW.PrintWords Go.Proofs.YtfjpilcmjabikaaDoor.P
theorem relL_set (n : Nat) (p : Nat → Nat → Bool) (i : Nat) (hi : i < n) (q : Nat → Bool) : (relL n p).set i ((setOf n q : Nat) : Int) = relL n (fun a b => if a = i then q b else p a b) := by
  apply list_ext_getD (by simp [relL_length])
  intro a ha
  have ha : a < n := by simpa [relL_length] using ha
  by_cases h : a = i
  · subst h
    rw [List.getD_eq_getElem?_getD, List.getElem?_set_self (by rw [relL_length]; exact hi)]
    simp [relL, hi]
  · have e : ((relL n p).set i ((setOf n q : Nat) : Int)).getD a 0 = (relL n p).getD a 0 := by simp [List.getD, Ne.symm h]
    rw [e]
    simp [relL, ha, h]
theorem relL_rd (n : Nat) (p : Nat → Nat → Bool) (i : Nat) (hi : i < n) : rd (relL n p) (i : Int) = ((setOf n (p i) : Nat) : Int) := by rw [rd_nat]; simp [relL, hi]
theorem or_rows (n : Nat) (hn : n ≤ 10) (q q' : Nat → Bool) : Go.bits .or .i64 ((setOf n q : Nat) : Int) ((setOf n q' : Nat) : Int) = ((setOf n (fun b => q b || q' b) : Nat) : Int) := by
  rw [or_i64 _ _ (setOf_62 _ _ (by omega)) (setOf_62 _ _ (by omega))]
  congr 1
  apply Nat.eq_of_testBit_eq
  intro j
  rw [Nat.testBit_or, testBit_setOf, testBit_setOf, testBit_setOf]
  cases decide (j < n) <;> simp
theorem clone_eq (l : List Int) (h : l.length < 17592186044416) : Aaz.f l = some l := by
  unfold Aaz.f
  simp [h]
end Go.Proofs.YtfjpilcmjabikaaDoor.M
namespace Go.Proofs.YtfjpilcmjabikaaDoor.M
open Go.RowKit Go.Proofs.YtfjpilcmjabikaaDoorW.PrintMore Go.Proofs.YtfjpilcmjabikaaDoorW.PrintLast Go.Proofs.YtfjpilcmjabikaaDoorW.PrintWords Go.Proofs.YtfjpilcmjabikaaDoor.P
set_option maxRecDepth 4000
theorem intsAt_ (l : List Nat) (q : Nat) (h : q < l.length) : rd (ints l) (q : Int) = ((l.getD q 0 : Nat) : Int) := by rw [rd_nat, ints_getD _ _ h]
theorem allB_succ (n : Nat) (p : Nat → Bool) : allB (n + 1) p = (allB n p && p n) := by simp [allB, List.range_succ, List.all_append]
theorem Contains_ev (z : List Nat) (x : Nat) (hz : z.length ≤ 1048576) : Ev (fun k => Aas.f k (ints z) (x : Int)) (decide (x ∈ z)) := by
  unfold Aas.f Aai.f
  rw [ints_length]
  have yes : ∀ i, i < z.length → z.getD i 0 = x → Ev (fun k => Aai.l0 k (ints z) (x : Int) (z.length : Int) (i : Int)) (i : Int) := by
    intro i hi hx
    refine Ev.step (fun _ => rfl) ?_
    simp only [Aai.l0, if_pos (show (i : Int) < (z.length : Int) by omega), if_pos (show (0 : Int) ≤ (i : Int) by omega), ints_length, intsAt_ z i hi, if_pos (show (x : Int) = ((z.getD i 0 : Nat) : Int) by omega)]
    exact Ev.now _
  have no : ∀ i r, i < z.length → z.getD i 0 ≠ x → Ev (fun k => Aai.l0 k (ints z) (x : Int) (z.length : Int) ((i + 1 : Nat) : Int)) r → Ev (fun k => Aai.l0 k (ints z) (x : Int) (z.length : Int) (i : Int)) r := by
    intro i r hi hx next
    refine Ev.step (fun _ => rfl) ?_
    simp only [Aai.l0, if_pos (show (i : Int) < (z.length : Int) by omega), if_pos (show (0 : Int) ≤ (i : Int) by omega), ints_length, intsAt_ z i hi, if_neg (show ¬ (x : Int) = ((z.getD i 0 : Nat) : Int) by omega), next64 i z.length hi (by omega)]
    exact next
  cases hf : (List.range z.length).findSome? fun i => if z.getD i 0 = x then some i else none with
  | none =>
    have hall := List.findSome?_eq_none_iff.1 hf
    have hn : x ∉ z := by
      intro hm
      obtain ⟨a, ha, e⟩ := mem_at hm
      have := hall a (by simpa using ha)
      rw [if_pos e] at this
      cases this
    have : Ev (fun k => Aai.l0 k (ints z) (x : Int) (z.length : Int) 0) (-1) := by
      refine Ev.miss (fun i k => Aai.l0 k (ints z) (x : Int) (z.length : Int) (i : Int)) z.length _ hf ?_ ?_
      · intro i r hi hm next
        refine no i r hi ?_ next
        intro e
        rw [if_pos e] at hm
        cases hm
      · refine Ev.step (fun _ => rfl) ?_
        simp only [Aai.l0, if_neg (show ¬ (z.length : Int) < (z.length : Int) by omega)]
        exact Ev.now _
    refine Ev.bind this ?_
    rw [decide_eq_false hn]
    exact Ev.now _
  | some j =>
    obtain ⟨i, hi, hj⟩ := List.exists_of_findSome?_eq_some hf
    have hi : i < z.length := by simpa using hi
    have hm : x ∈ z := by
      split at hj
      · rename_i e
        exact e ▸ at_mem i hi
      · cases hj
    have : Ev (fun k => Aai.l0 k (ints z) (x : Int) (z.length : Int) 0) (j : Int) := by
      refine Ev.hit (enc := fun i : Nat => (i : Int)) (fun i k => Aai.l0 k (ints z) (x : Int) (z.length : Int) (i : Int)) z.length _ hf ?_ ?_
      · intro i b hi hb
        split at hb
        · rename_i e
          injection hb with hb
          subst hb
          exact yes i hi e
        · cases hb
      · intro i r hi hm next
        refine no i r hi ?_ next
        intro e
        rw [if_pos e] at hm
        cases hm
    refine Ev.bind this ?_
    rw [decide_eq_true hm, decide_eq_true (show (j : Int) ≥ 0 by omega)]
    exact Ev.now _
theorem LeO_up {α : Type} (g : Nat → Option α) (h : ∀ k, LeO (g k) (g (k + 1))) (a m : Nat) : LeO (g a) (g (a + m)) := by
  induction m with
  | zero => exact LeO.refl _
  | succ m ih => intro r hr; exact h (a + m) r (ih r hr)
theorem Ev.uniform {α : Type} (G : Nat → Nat → Option α) (n : Nat) (P : Nat → Prop) (v : Nat → α) (h : ∀ x, x < n → P x → Ev (fun k => G k x) (v x)) : ∃ K, ∀ k, K ≤ k → ∀ x, x < n → P x → G k x = some (v x) := by
  induction n with
  | zero => exact ⟨0, fun k _ x hx _ => absurd hx (Nat.not_lt_zero _)⟩
  | succ n ih =>
    obtain ⟨K, hK⟩ := ih (fun x hx hp => h x (by omega) hp)
    by_cases hp : P n
    · obtain ⟨K', hK'⟩ := h n (by omega) hp
      refine ⟨max K K', fun k hk x hx hpx => ?_⟩
      by_cases e : x = n
      · subst e; exact hK' k (by omega)
      · exact hK k (by omega) x (by omega) hpx
    · refine ⟨K, fun k hk x hx hpx => ?_⟩
      by_cases e : x = n
      · subst e; exact absurd hpx hp
      · exact hK k hk x (by omega) hpx
def found (z : Option (List Nat)) : List Int := match z with
  | some z => ints z
  | none => []
theorem findP_ne {n : Nat} {l m : List Int} : ∀ d z r, findP n l m d z = some r → z ≠ [] → r ≠ [] := by
  intro d
  induction d with
  | zero => intro z r h hz; injection h with h; subst h; exact hz
  | succ d ih =>
    intro z r h hz
    unfold findP at h
    obtain ⟨x, _, h⟩ := List.exists_of_findSome?_eq_some h
    split at h
    · exact ih (z ++ [x]) r h (by simp)
    · cases h
theorem pattern1_ev {n s : Nat} {l m : List Int} (h : Rel n l) (hm : Rel s m) (a3 : Int) : ∀ d z, z.length + d = s → (∀ y ∈ z, y < n) → Ev (fun k => Aab.f k (ints z) (s : Int) m (n : Int) l a3) (found (findP n l m d z)) := by
  have hn := h.le
  have hs := hm.le
  intro d
  induction d with
  | zero =>
    intro z hz _
    refine Ev.step (fun _ => rfl) ?_
    simp only [Aab.f, Aab.g, ints_length, if_pos (show (z.length : Int) = (s : Int) by omega)]
    exact Ev.now _
  | succ d ih =>
    intro z hz hzn
    obtain ⟨K, hK⟩ := Ev.uniform (fun k x => Aab.f k (ints (z ++ [x])) (s : Int) m (n : Int) l a3) n (fun _ => True) (fun x => found (findP n l m d (z ++ [x]))) (fun x hx _ => ih (z ++ [x]) (by simp; omega) (fun y hy => by
      rcases List.mem_append.1 hy with hy | hy
      · exact hzn y hy
      · simp at hy; omega))
    have main : ∀ is : List Int → Option (List Int), (∀ x, x < n → is (ints (z ++ [x])) = some (found (findP n l m d (z ++ [x])))) → Ev (fun k => Aab.g is k (ints z) (s : Int) m (n : Int) l a3) (found (findP n l m (d + 1) z)) := by
      intro is his
      unfold Aab.g
      rw [ints_length]
      simp only [if_neg (show ¬ (z.length : Int) = (s : Int) by omega)]
      -- one element
      have one : ∀ x r, x < n → ((if fits l m z x then findP n l m d (z ++ [x]) else none) = none → Ev (fun k => Aab.l0 is k (ints z) (z.length : Int) (n : Int) ((x + 1 : Nat) : Int) (s : Int) m (n : Int) l) r) → (∀ b, (if fits l m z x then findP n l m d (z ++ [x]) else none) = some b → r = ints b) → Ev (fun k => Aab.l0 is k (ints z) (z.length : Int) (n : Int) (x : Int) (s : Int) m (n : Int) l) r := by
        intro x r hx miss hit
        have inner : ∀ b0, b0 = (!decide (x ∈ z) && (B l x x == B m z.length z.length)) → Ev (fun k => Aab.j1 is k (ints z) (z.length : Int) (x : Int) b0 (n : Int) (x : Int) (s : Int) m (n : Int) l) r := by
          intro b0 hb0
          refine Ev.step (fun _ => rfl) ?_
          simp only [Aab.j1, ints_length]
          have key := Ev.up (r := r) (fun b k => Aab.l1 is k (ints z) (z.length : Int) (x : Int) (b0 && allB b fun b => (B l x (z.getD b 0) == B m z.length b) && (B l (z.getD b 0) x == B m b z.length)) (n : Int) (x : Int) (ints z) (z.length : Int) (b : Int) (s : Int) m (n : Int) l) z.length ?_ ?_
          · have e : (b0 && allB 0 fun b => (B l x (z.getD b 0) == B m z.length b) && (B l (z.getD b 0) x == B m b z.length)) = b0 := by simp [allB]
            rw [e] at key
            exact key
          · intro b hb next
            have hzb := hzn _ (at_mem b hb)
            refine Ev.step (fun _ => rfl) ?_
            rw [allB_succ] at next
            simp only [Aab.l1, if_pos (show (b : Int) < (z.length : Int) by omega), if_pos (show (0 : Int) ≤ (b : Int) by omega), ints_length, intsAt_ z b hb, next64 b z.length hb (by omega),
              better_eq h _ _ _ hx (show z.getD b 0 ≤ 62 by omega), better_eq hm _ _ _ (show z.length < s by omega) (show b ≤ 62 by omega), better_eq h _ _ _ hzb (show x ≤ 62 by omega), better_eq hm _ _ _ (show b < s by omega) (show z.length ≤ 62 by omega), Option.bind_some]
            cases hacc : (b0 && allB b fun b => (B l x (z.getD b 0) == B m z.length b) && (B l (z.getD b 0) x == B m b z.length)) with
            | false =>
              rw [← Bool.and_assoc, hacc, Bool.false_and] at next
              simp only [Bool.false_eq_true, if_false]
              exact next
            | true =>
              rw [← Bool.and_assoc, hacc, Bool.true_and] at next
              simp only [if_true]
              cases hc : (B l x (z.getD b 0) == B m z.length b) with
              | false =>
                rw [hc, Bool.false_and] at next
                simp only [Bool.false_eq_true, if_false]
                exact next
              | true =>
                rw [hc, Bool.true_and] at next
                simp only [if_true]
                exact next
          · have hfit : (b0 && allB z.length fun b => (B l x (z.getD b 0) == B m z.length b) && (B l (z.getD b 0) x == B m b z.length)) = fits l m z x := by rw [hb0]; rfl
            rw [hfit]
            refine Ev.step (fun _ => rfl) ?_
            simp only [Aab.l1, if_neg (show ¬ (z.length : Int) < (z.length : Int) by omega)]
            cases hf : fits l m z x with
            | false =>
              simp only [Bool.false_eq_true, if_false, next64 x n hx (by omega)]
              exact miss (by rw [hf]; rfl)
            | true =>
              have e1 : ints z ++ [(x : Int)] = ints (z ++ [x]) := by simp [ints]
              simp only [if_true, clone_eq (ints z) (by rw [ints_length]; omega), Option.bind_some, ints_length, List.length_singleton, if_pos (show z.length + 1 < 17592186044416 by omega), e1, his x hx]
              cases hr : findP n l m d (z ++ [x]) with
              | none =>
                simp only [found, if_true, next64 x n hx (by omega)]
                exact miss (by rw [hf, if_pos rfl]; exact hr)
              | some b =>
                have hne := findP_ne d _ b hr (by simp)
                have hne' : ¬ ints b = [] := by
                  intro e
                  have := congrArg List.length e
                  rw [ints_length] at this
                  exact hne (List.eq_nil_of_length_eq_zero this)
                simp only [if_neg (show ¬ found (some b) = [] from hne')]
                rw [hit b (by rw [hf, if_pos rfl]; exact hr)]
                exact Ev.now _
        refine Ev.step (fun _ => rfl) ?_
        simp only [Aab.l0, if_pos (show (x : Int) < (n : Int) by omega)]
        refine Ev.bind (Contains_ev z x (by omega)) ?_
        by_cases hmem : x ∈ z
        · simp only [decide_eq_true hmem, if_true]
          exact inner false (by simp [hmem])
        · simp only [decide_eq_false hmem, Bool.false_eq_true, if_false, better_eq h _ _ _ hx (show x ≤ 62 by omega), better_eq hm _ _ _ (show z.length < s by omega) (show z.length ≤ 62 by omega), Option.bind_some]
          exact inner _ (by simp [hmem])
      have stop : Ev (fun k => Aab.l0 is k (ints z) (z.length : Int) (n : Int) (n : Int) (s : Int) m (n : Int) l) [] := by
        refine Ev.step (fun _ => rfl) ?_
        simp only [Aab.l0, if_neg (show ¬ (n : Int) < (n : Int) by omega)]
        exact Ev.now _
      cases hf : findP n l m (d + 1) z with
      | none =>
        exact Ev.miss (fun x k => Aab.l0 is k (ints z) (z.length : Int) (n : Int) (x : Int) (s : Int) m (n : Int) l) n _ hf (fun x r hx hm next => one x r hx (fun _ => next) (fun b hb => by rw [hm] at hb; cases hb)) stop
      | some r =>
        exact Ev.hit (enc := ints) (fun x k => Aab.l0 is k (ints z) (z.length : Int) (n : Int) (x : Int) (s : Int) m (n : Int) l) n _ hf (fun x b hx hb => one x _ hx (fun hn => by rw [hn] at hb; cases hb) (fun b' hb' => by rw [hb] at hb'; injection hb' with e; rw [e])) (fun x r hx hm next => one x r hx (fun _ => next) (fun b hb => by rw [hm] at hb; cases hb))
    obtain ⟨K', hK'⟩ := main (fun y => Aab.f K y (s : Int) m (n : Int) l a3) (fun x hx => hK K (Nat.le_refl _) x hx trivial)
    refine ⟨max K K' + 2, fun k hk => ?_⟩
    obtain ⟨e, rfl⟩ : ∃ e, k = e + 1 + 1 := ⟨k - 2, by omega⟩
    show Aab.g (fun y => Aab.f (e + 1) y (s : Int) m (n : Int) l a3) (e + 1) (ints z) (s : Int) m (n : Int) l a3 = _
    refine Aab.mono2 (is := fun y => Aab.f K y (s : Int) m (n : Int) l a3) (fun y => ?_) _ _ _ _ _ _ e _ (hK' e (by omega))
    have := LeO_up (fun k => Aab.f k y (s : Int) m (n : Int) l a3) (fun k => Aab.mono _ _ _ _ _ _ k) K (e + 1 - K)
    rw [show K + (e + 1 - K) = e + 1 from by omega] at this
    exact this
theorem pattern_ev {n s : Nat} {l m : List Int} (h : Rel n l) (hm : Rel s m) : Ev (fun k => Aat.f k (n : Int) l (s : Int) m) (found (findP n l m s [])) := by
  unfold Aat.f
  exact Ev.bind (pattern1_ev h hm 0 s [] (by simp) (fun y hy => by simp at hy)) (Ev.now _)
theorem found_nil {n s : Nat} {l m : List Int} : (found (findP n l m s []) != ([] : List Int) || ((s : Nat) : Int) == 0) = (findP n l m s []).isSome := by
  cases s with
  | zero => simp [findP]
  | succ s =>
    have e : (((s + 1 : Nat) : Int) == 0) = false := by rw [beq_eq_false_iff_ne]; omega
    rw [e, Bool.or_false]
    cases hf : findP n l m (s + 1) [] with
    | none => rfl
    | some r =>
      have hne : r ≠ [] := by
        unfold findP at hf
        obtain ⟨x, _, hf⟩ := List.exists_of_findSome?_eq_some hf
        split at hf
        · exact findP_ne s _ r hf (by simp)
        · cases hf
      have : found (some r) ≠ [] := by
        intro e
        have := congrArg List.length e
        simp only [found, ints_length] at this
        exact hne (List.eq_nil_of_length_eq_zero this)
      simp [this]
def patOf (n : Int) (l : List Int) (s : Int) (m : List Int) : List Int × Bool := if isRel n l && (isRel s m && decide (s ≤ 6)) then (found (findP n.toNat l m s.toNat []), (findP n.toNat l m s.toNat []).isSome) else ([], false)
theorem FindPattern_ev (n : Int) (l : List Int) (s : Int) (m : List Int) (hl : l.length ≤ 140737488355328) (hl' : m.length ≤ 140737488355328) : Ev (fun k => Aa5.f k n l s m) (patOf n l s m) := by
  unfold Aa5.f patOf
  refine Ev.bind (IsRelation_ev n l hl) ?_
  cases hr : isRel n l with
  | false => simp only [Bool.false_eq_true, if_false, Bool.false_and]; exact Ev.now _
  | true =>
    simp only [if_true, Bool.true_and]
    refine Ev.bind (IsRelation_ev s m hl') ?_
    cases hr' : isRel s m with
    | false => simp only [Bool.false_eq_true, if_false, Bool.false_and]; exact Ev.now _
    | true =>
      simp only [if_true, Bool.true_and]
      by_cases h6 : s > 6
      · simp only [if_pos h6, decide_eq_false (show ¬ s ≤ 6 by omega), Bool.false_eq_true, if_false]
        exact Ev.now _
      · simp only [if_neg h6, decide_eq_true (show s ≤ 6 by omega), if_true]
        obtain ⟨n, rfl, h⟩ := isRel_iff.1 hr
        obtain ⟨s, rfl, hm⟩ := isRel_iff.1 hr'
        refine Ev.bind (pattern_ev h hm) ?_
        rw [found_nil, Int.toNat_natCast, Int.toNat_natCast]
        exact Ev.now _
end Go.Proofs.YtfjpilcmjabikaaDoor.M
namespace Go.Proofs.YtfjpilcmjabikaaDoor.M
open Go.RowKit Go.Proofs.YtfjpilcmjabikaaDoorW.PrintMore Go.Proofs.YtfjpilcmjabikaaDoorW.PrintLast Go.Proofs.YtfjpilcmjabikaaDoorW.PrintWords Go.Proofs.YtfjpilcmjabikaaDoor.P
theorem ints_of {z : List Int} (h : ∀ x ∈ z, 0 ≤ x) : z = ints (z.map Int.toNat) := by
  unfold ints
  rw [List.map_map]
  conv => lhs; rw [← List.map_id z]
  apply List.map_congr_left
  intro x hx
  have := h x hx
  simp; omega
theorem ints_nat (l : List Nat) : (ints l).map Int.toNat = l := by
  unfold ints
  rw [List.map_map]
  conv => rhs; rw [← List.map_id l]
  apply List.map_congr_left
  intro x _
  simp
theorem ints_rd (l : List Nat) (q : Nat) (h : q < l.length) : rd (ints l) (q : Int) = ((l.getD q 0 : Nat) : Int) := by rw [rd_nat, ints_getD _ _ h]
theorem take_next (l : List Nat) (i : Nat) (h : i < l.length) : l.take (i + 1) = l.take i ++ [l.getD i 0] := by
  rw [List.take_add_one]
  simp [h]
theorem getD_mem (l : List Nat) (i : Nat) (h : i < l.length) : l.getD i 0 ∈ l := by simp [h]
def setN (l : List Nat) : Nat := l.foldl (fun s x => s ||| 2 ^ x) 0
theorem setN_snoc (l : List Nat) (x : Nat) : setN (l ++ [x]) = setN l ||| 2 ^ x := by simp [setN]
theorem testBit_setN (l : List Nat) (j : Nat) : (setN l).testBit j = decide (j ∈ l) := by
  have key : ∀ (l : List Nat) (s : Nat), (l.foldl (fun s x => s ||| 2 ^ x) s).testBit j = (s.testBit j || decide (j ∈ l)) := by
    intro l
    induction l with
    | nil => intro s; simp
    | cons x l ih =>
      intro s
      rw [List.foldl_cons, ih, Nat.testBit_or, Nat.testBit_two_pow]
      by_cases h : x = j
      · subst h; simp
      · have : ¬ j = x := fun e => h e.symm
        simp [h, this]
  rw [setN, key]; simp
theorem setN_lt (l : List Nat) (n : Nat) (h : ∀ x ∈ l, x < n) : setN l < 2 ^ n := by
  apply Nat.lt_pow_two_of_testBit
  intro j hj
  rw [testBit_setN, decide_eq_false_iff_not]
  intro hm
  have := h j hm
  omega
theorem setN_62 (l : List Nat) (n : Nat) (hn : n ≤ 62) (h : ∀ x ∈ l, x < n) : setN l < 9223372036854775808 := lt62 (setN_lt l n h) hn
theorem pow_62 (j : Nat) (h : j ≤ 62) : (2 : Nat) ^ j < 9223372036854775808 := Nat.lt_of_le_of_lt (Nat.pow_le_pow_right (by decide) h) (by decide)
theorem or_set (s j : Nat) (hs : s < 9223372036854775808) (hj : j ≤ 62) : Go.bits .or .i64 (s : Int) (shl .i64 1 (j : Int)) = ((s ||| 2 ^ j : Nat) : Int) := by
  rw [shl1 j hj, or_i64 _ _ hs (pow_62 j hj)]
theorem orSet_ev (l : List Nat) (n : Nat) (hn : n ≤ 62) (h : ∀ x ∈ l, x < n) (hl : l.length ≤ 140737488355328) : Ev (fun k => Aa9.f k (ints l)) ((setN l : Nat) : Int) := by
  unfold Aa9.f
  rw [ints_length]
  have e0 : setN l = setN (l.take l.length) := by rw [List.take_length]
  rw [e0]
  refine Ev.up (fun i k => Aa9.l0 k ((setN (l.take i) : Nat) : Int) (ints l) (l.length : Int) (i : Int)) l.length ?_ ?_
  · intro i hi next
    have hm := h _ (getD_mem l i hi)
    refine Ev.step (fun _ => rfl) ?_
    simp only [Aa9.l0, if_pos (show (i : Int) < (l.length : Int) by omega), if_pos (show (0 : Int) ≤ (i : Int) by omega), ints_length, ints_rd l i hi, if_pos (show (0 : Int) ≤ ((l.getD i 0 : Nat) : Int) by omega),
      or_set _ _ (setN_62 (l.take i) n hn fun x hx => h x (List.mem_of_mem_take hx)) (show l.getD i 0 ≤ 62 by omega), ← setN_snoc, ← take_next l i hi, next64 i l.length hi hl]
    exact next
  · refine Ev.step (fun _ => rfl) ?_
    simp only [Aa9.l0, if_neg (show ¬ (l.length : Int) < (l.length : Int) by omega)]
    exact Ev.now _
def isName (n : Nat) (z : List Int) : Bool := allIn z 0 ((n : Int) - 1) && (decide (z.length = n) && setN (z.map Int.toNat) == 2 ^ n - 1)
theorem allIn_nat {z : List Int} {n : Nat} (h : allIn z 0 ((n : Int) - 1) = true) : ∃ l, z = ints l ∧ ∀ x ∈ l, x < n := by
  have h := of_decide_eq_true h
  refine ⟨z.map Int.toNat, ints_of fun x hx => (h x hx).1, ?_⟩
  intro x hx
  rw [List.mem_map] at hx
  obtain ⟨y, hy, rfl⟩ := hx
  have := h y hy
  omega
theorem pow_m1 (n : Nat) (hn : n ≤ 10) : wrap64 (shl .i64 1 (n : Int) - 1) = ((2 ^ n - 1 : Nat) : Int) := by
  rw [pow_of n (by omega) (by omega), Int.toNat_natCast]
  have := Nat.two_pow_pos n
  omega
theorem beq_cast (a b : Nat) : (((a : Int)) == ((b : Nat) : Int)) = (a == b) := by
  rw [Bool.eq_iff_iff, beq_iff_eq, beq_iff_eq]; omega
theorem isNaming_ev (n : Nat) (hn : n ≤ 10) (z : List Int) (hz : z.length ≤ 140737488355328) : Ev (fun k => Aa3.f k z (n : Int)) (isName n z) := by
  unfold Aa3.f isName
  rw [wrap64_in _ (by omega) (by omega)]
  refine Ev.bind (allWithin_ev z _ _ hz) ?_
  cases ha : allIn z 0 ((n : Int) - 1) with
  | false => simp only [Bool.false_eq_true, if_false, Bool.false_and]; exact Ev.now _
  | true =>
    obtain ⟨l, rfl, hl⟩ := allIn_nat ha
    rw [ints_length] at hz
    simp only [if_true, Bool.true_and, ints_length, ints_nat]
    refine Ev.up (fun i k => Aa3.l0 k (ints l) (n : Int) ((setN (l.take i) : Nat) : Int) (ints l) (l.length : Int) (i : Int)) l.length ?_ ?_
    · intro i hi next
      have hm := hl _ (getD_mem l i hi)
      refine Ev.step (fun _ => rfl) ?_
      simp only [Aa3.l0, if_pos (show (i : Int) < (l.length : Int) by omega), if_pos (show (0 : Int) ≤ (i : Int) by omega), ints_length, ints_rd l i hi, if_pos (show (0 : Int) ≤ ((l.getD i 0 : Nat) : Int) by omega),
        or_set _ _ (setN_62 (l.take i) n (by omega) fun x hx => hl x (List.mem_of_mem_take hx)) (show l.getD i 0 ≤ 62 by omega), ← setN_snoc, ← take_next l i hi, next64 i l.length hi hz]
      exact next
    · refine Ev.step (fun _ => rfl) ?_
      simp only [Aa3.l0, if_neg (show ¬ (l.length : Int) < (l.length : Int) by omega), ints_length, List.take_length]
      by_cases h : l.length = n
      · simp only [if_pos (show (l.length : Int) = (n : Int) by omega), if_pos (show (0 : Int) ≤ (n : Int) by omega), pow_m1 n hn, decide_eq_true h, Bool.true_and, beq_cast]
        exact Ev.now _
      · simp only [if_neg (show ¬ (l.length : Int) = (n : Int) by omega), decide_eq_false h, Bool.false_and]
        exact Ev.now _
theorem orNames_ev (n : Nat) (hn : n ≤ 10) (z : List Int) (hz : z.length ≤ 140737488355328) : Ev (fun k => Abf.f k (n : Int) z) (isName n z) := by
  unfold Abf.f isName
  rw [wrap64_in _ (by omega) (by omega)]
  by_cases h : z.length = n
  · simp only [if_pos (show (z.length : Int) = (n : Int) by omega), decide_eq_true h, Bool.true_and]
    refine Ev.bind (l1All_ev z _ _ hz) ?_
    cases ha : allIn z 0 ((n : Int) - 1) with
    | false => simp only [Bool.false_eq_true, if_false, Bool.false_and]; exact Ev.now _
    | true =>
      obtain ⟨l, rfl, hl⟩ := allIn_nat ha
      rw [ints_length] at hz
      simp only [if_true, ints_nat, Bool.true_and]
      refine Ev.bind (orSet_ev l n (by omega) hl hz) ?_
      simp only [if_pos (show (0 : Int) ≤ (n : Int) by omega), pow_m1 n hn, beq_cast]
      exact Ev.now _
  · simp only [if_neg (show ¬ (z.length : Int) = (n : Int) by omega), decide_eq_false h, Bool.false_and, Bool.and_false]
    exact Ev.now _
def bel (n : Nat) (l : List Int) (x : Nat) : Nat := row (mir n l) x
end Go.Proofs.YtfjpilcmjabikaaDoor.M
namespace Go.Proofs.YtfjpilcmjabikaaDoor.M
open Go.RowKit Go.Proofs.YtfjpilcmjabikaaDoorW.PrintMore Go.Proofs.YtfjpilcmjabikaaDoorW.PrintLast Go.Proofs.YtfjpilcmjabikaaDoorW.PrintWords Go.Proofs.YtfjpilcmjabikaaDoor.P
theorem length_all (n : Nat) (l : List Nat) (h : ∀ x, x < n → x ∈ l) : n ≤ l.length := by
  induction n generalizing l with
  | zero => omega
  | succ n ih =>
    have hm := h n (by omega)
    have := ih (l.erase n) (fun x hx => (List.mem_erase_of_ne (by omega)).2 (h x (by omega)))
    rw [List.length_erase_of_mem hm] at this
    have := List.length_pos_of_mem hm
    omega
def free (n : Nat) (l : List Int) (F : List Nat) (x : Nat) : Bool := !(decide (x ∈ F)) && diff (bel n l x) (setN F) == 0
structure Greedy (n : Nat) (l : List Int) (F : List Nat) : Prop where
  lt : ∀ x ∈ F, x < n
  le : F.length ≤ n
  least : ∀ i, i < F.length → ∀ y, y < n → free n l (F.take i) y = true → F.getD i 0 ≤ y
  ok : ∀ i, i < F.length → free n l (F.take i) (F.getD i 0) = true
theorem Greedy.nil (n : Nat) (l : List Int) : Greedy n l [] := ⟨by simp, by simp, by simp, by simp⟩
theorem orUpTo_tot (t : Int) (h1 : t ≤ 11) : Tot (fun k => Aa6.f k t) (fun r => r.length ≤ 11) := by
  unfold Aa6.f
  by_cases h0 : 0 ≤ t
  · obtain ⟨m, rfl⟩ := Int.eq_ofNat_of_zero_le h0
    refine Tot.up (fun i (s : List Int) k => Aa6.l0 k (m : Int) s (i : Int)) m (fun i s => s.length = i) ?_ ?_ 0 (Nat.zero_le _) [] rfl
    · intro i s hi hs next
      refine Tot.step (fun _ => rfl) ?_
      simp only [Aa6.l0, if_pos (show (i : Int) < (m : Int) by omega), if_pos (show s.length < 17592186044416 by omega), next64 i m hi (by omega)]
      exact next _ (by simp [hs])
    · intro s hs
      refine Tot.step (fun _ => rfl) ?_
      simp only [Aa6.l0, if_neg (show ¬ (m : Int) < (m : Int) by omega)]
      exact Tot.now (by omega)
  · refine Tot.step (fun _ => rfl) ?_
    simp only [Aa6.l0, if_neg (show ¬ (0 : Int) < t by omega)]
    exact Tot.now (by simp)
theorem names_tot {l : List Int} (hb : By l) (p h a : Int) (hp : 0 ≤ p) (hp2 : p ≤ 999000) : Tot (fun k => Aaq.f k l p h a) (fun r => r.1.length ≤ 12 ∧ p ≤ r.2.1 ∧ r.2.1 ≤ p + 40) := by
  unfold Aaq.f
  refine Tot.obind (Q := fun t => t ≤ 11) ?_ ?_
  · unfold Abb.f
    by_cases h : a < 11
    · rw [if_pos h]; exact ⟨_, rfl, by omega⟩
    · rw [if_neg h]; exact ⟨_, rfl, by omega⟩
  intro t ht
  refine Tot.bind (orUpTo_tot t ht) ?_
  intro z hz
  refine Tot.up (fun i (s : List Int × Int × Int) k => Aaq.l0 k s.1 (z.length : Int) (i : Int) l s.2.1 s.2.2) z.length (fun i s => s.1.length = z.length ∧ p ≤ s.2.1 ∧ s.2.1 ≤ p + 2 * (i : Int)) ?_ ?_ 0 (Nat.zero_le _) (z, p, h) ⟨rfl, by simp only; omega, by simp only; omega⟩
  · rintro i ⟨s, p1, h1⟩ hi ⟨s1, s2, s3⟩ next
    simp only at s1 s2 s3
    refine Tot.step (fun _ => rfl) ?_
    simp only [Aaq.l0, if_pos (show (i : Int) < (z.length : Int) by omega), s1, if_pos (show (0 : Int) ≤ (i : Int) by omega), next64 i z.length hi (by omega)]
    refine Tot.obind (pick_ok hb p1 h1 _ (by omega) (by omega)) ?_
    rintro ⟨v, p2, h2⟩ ⟨v0, v1, v2, v3⟩
    simp only at v0 v1 v2 v3
    simp only [if_pos v0, if_pos (show v < (z.length : Int) by omega)]
    exact next (_, _, _) ⟨by simpa using s1, by simp only; omega, by simp only; omega⟩
  · rintro ⟨s, p1, h1⟩ ⟨s1, s2, s3⟩
    simp only at s1 s2 s3
    refine Tot.step (fun _ => rfl) ?_
    simp only [Aaq.l0, if_neg (show ¬ (z.length : Int) < (z.length : Int) by omega)]
    refine Tot.obind (one_ok hb p1 h1 10 (by omega) (by omega)) ?_
    rintro ⟨v, p2, h2⟩ ⟨v2, v3⟩
    simp only at v2 v3
    refine Tot.ite (fun _ => ?_) (fun _ => Tot.now ⟨by simp only; omega, by simp only; omega, by simp only; omega⟩)
    refine Tot.obind (pick_ok hb p2 h2 3 (by omega) (by omega)) ?_
    rintro ⟨v', p3, h3⟩ ⟨u0, u1, u2, u3⟩
    simp only at u0 u1 u2 u3
    simp only [if_pos (show s.length < 17592186044416 by omega)]
    exact Tot.now ⟨by simp only [List.length_append, List.length_singleton]; omega, by simp only; omega, by simp only; omega⟩
theorem name_parts {n : Nat} {z : List Int} (h : isName n z = true) : ∃ l, z = ints l ∧ (∀ x ∈ l, x < n) ∧ l.length = n ∧ ∀ x, x < n → x ∈ l := by
  unfold isName at h
  rw [Bool.and_eq_true, Bool.and_eq_true] at h
  obtain ⟨h1, h2, h3⟩ := h
  obtain ⟨l, rfl, hl⟩ := allIn_nat h1
  refine ⟨l, rfl, hl, by simpa [ints_length] using h2, fun x hx => ?_⟩
  rw [ints_nat, beq_iff_eq] at h3
  have := testBit_setN l x
  rw [h3, Nat.testBit_two_pow_sub_one, decide_eq_true hx] at this
  exact of_decide_eq_true this.symm
theorem name_distinct {n : Nat} {l : List Nat} (hl : l.length = n) (h : ∀ x, x < n → x ∈ l) (i : Nat) (hi : i < l.length) : l.getD i 0 ∉ l.take i := by
  intro hm
  have e : l = l.take i ++ l.getD i 0 :: l.drop (i + 1) := by
    conv => lhs; rw [← List.take_append_drop i l, List.drop_eq_getElem_cons hi]
    simp [hi]
  have := length_all n (l.take i ++ l.drop (i + 1)) (fun x hx => by
    have hx := h x hx
    rw [e, List.mem_append, List.mem_cons] at hx
    rw [List.mem_append]
    rcases hx with hx | rfl | hx
    · exact .inl hx
    · exact .inl hm
    · exact .inr hx)
  rw [List.length_append, List.length_take, List.length_drop] at this
  omega
end Go.Proofs.YtfjpilcmjabikaaDoor.M
namespace Go.Proofs.YtfjpilcmjabikaaDoor.M
open Go.RowKit Go.Proofs.YtfjpilcmjabikaaDoorW.PrintMore Go.Proofs.YtfjpilcmjabikaaDoorW.PrintLast Go.Proofs.YtfjpilcmjabikaaDoorW.PrintWords Go.Proofs.YtfjpilcmjabikaaDoor.P
set_option maxRecDepth 4000
theorem Ev.allThen (G : Nat → Nat → Option Bool) (n : Nat) (p : Nat → Bool) (r0 : Bool) (yes : ∀ i r, i < n → p i = true → Ev (G (i + 1)) r → Ev (G i) r) (no : ∀ i, i < n → p i = false → Ev (G i) false) (stop : Ev (G n) r0) :
    Ev (G 0) (allB n p && r0) := by
  cases h : allB n p with
  | true =>
    have h := allB_iff.1 h
    exact Ev.up G n (fun i hi => yes i r0 hi (h i hi)) stop
  | false =>
    obtain ⟨j, hj, hp, hl⟩ := least_false (allB_false.1 h)
    exact Ev.up G j (fun i hi => yes i false (by omega) (hl i hi)) (no j hj hp)
theorem orFits_ev {n s : Nat} {l m : List Int} (h : Rel n l) (hm : Rel s m) (z : List Nat) (x : Nat) (hz : z.length < s) (hzn : ∀ y ∈ z, y < n) (hx : x < n) : Ev (fun k => Aao.f k (n : Int) l (s : Int) m (ints z) (x : Int)) (fits l m z x) := by
  have hn := h.le
  have hs := hm.le
  have e : fits l m z x = (allB z.length (fun a => !(decide (z.getD a 0 = x)) && ((B l (z.getD a 0) x == B m a z.length) && (B l x (z.getD a 0) == B m z.length a))) && (B l x x == B m z.length z.length)) := by
    unfold fits
    rw [Bool.eq_iff_iff, Bool.and_eq_true, Bool.and_eq_true, Bool.and_eq_true, allB_iff, allB_iff, Bool.not_eq_true', decide_eq_false_iff_not]
    constructor
    · rintro ⟨⟨h1, h2⟩, h3⟩
      refine ⟨fun a ha => ?_, h2⟩
      have := h3 a ha
      rw [Bool.and_eq_true] at this
      rw [Bool.and_eq_true, Bool.and_eq_true, Bool.not_eq_true', decide_eq_false_iff_not]
      exact ⟨fun e => h1 (e ▸ at_mem a ha), this.2, this.1⟩
    · rintro ⟨h3, h2⟩
      refine ⟨⟨fun hmem => ?_, h2⟩, fun a ha => ?_⟩
      · obtain ⟨a, ha, e⟩ := mem_at hmem
        have := h3 a ha
        rw [Bool.and_eq_true, Bool.not_eq_true', decide_eq_false_iff_not] at this
        exact this.1 e
      · have := h3 a ha
        rw [Bool.and_eq_true, Bool.and_eq_true] at this
        rw [Bool.and_eq_true]
        exact ⟨this.2.2, this.2.1⟩
  rw [e]
  unfold Aao.f
  rw [ints_length]
  have bit : ∀ a b, (row l a).testBit b = B l a b := fun _ _ => rfl
  have bit' : ∀ a b, (row m a).testBit b = B m a b := fun _ _ => rfl
  refine Ev.allThen (fun a k => Aao.l0 k (x : Int) (z.length : Int) (ints z) (z.length : Int) (a : Int) (n : Int) l (s : Int) m) z.length _ _ ?_ ?_ ?_
  · intro a r ha hp next
    rw [Bool.and_eq_true, Bool.and_eq_true, Bool.not_eq_true', decide_eq_false_iff_not, beq_iff_eq, beq_iff_eq] at hp
    obtain ⟨h1, h2, h3⟩ := hp
    have hza := hzn _ (at_mem a ha)
    refine Ev.step (fun _ => rfl) ?_
    simp only [Aao.l0, if_pos (show (a : Int) < (z.length : Int) by omega), if_pos (show (0 : Int) ≤ (a : Int) by omega), ints_length, intsAt_ z a ha, if_neg (show ¬ ((z.getD a 0 : Nat) : Int) = (x : Int) by omega), if_pos (show (0 : Int) ≤ ((z.getD a 0 : Nat) : Int) by omega), h.len, if_pos (show ((z.getD a 0 : Nat) : Int) < (n : Int) by omega), h.rd, hm.rd, hm.len, if_pos (show (a : Int) < (s : Int) by omega),
      orHas_eq _ x (by omega), orHas_eq _ z.length (by omega), orHas_eq _ (z.getD a 0) (by omega), orHas_eq _ a (by omega), Option.bind_some, bit, bit', h2, h3, bne_self_eq_false, Bool.false_eq_true, if_false, if_pos (show (0 : Int) ≤ (x : Int) by omega), if_pos (show (x : Int) < (n : Int) by omega), if_pos (show (0 : Int) ≤ (z.length : Int) by omega), if_pos (show (z.length : Int) < (s : Int) by omega), next64 a z.length ha (by omega)]
    exact next
  · intro a ha hp
    have hza := hzn _ (at_mem a ha)
    refine Ev.step (fun _ => rfl) ?_
    by_cases h1 : z.getD a 0 = x
    · simp only [Aao.l0, if_pos (show (a : Int) < (z.length : Int) by omega), if_pos (show (0 : Int) ≤ (a : Int) by omega), ints_length, intsAt_ z a ha, if_pos (show ((z.getD a 0 : Nat) : Int) = (x : Int) by omega)]
      exact Ev.now _
    · simp only [Aao.l0, if_pos (show (a : Int) < (z.length : Int) by omega), if_pos (show (0 : Int) ≤ (a : Int) by omega), ints_length, intsAt_ z a ha, if_neg (show ¬ ((z.getD a 0 : Nat) : Int) = (x : Int) by omega), if_pos (show (0 : Int) ≤ ((z.getD a 0 : Nat) : Int) by omega), h.len, if_pos (show ((z.getD a 0 : Nat) : Int) < (n : Int) by omega), h.rd, hm.rd, hm.len, if_pos (show (a : Int) < (s : Int) by omega),
        orHas_eq _ x (by omega), orHas_eq _ z.length (by omega), orHas_eq _ (z.getD a 0) (by omega), orHas_eq _ a (by omega), Option.bind_some, bit, bit', if_pos (show (0 : Int) ≤ (x : Int) by omega), if_pos (show (x : Int) < (n : Int) by omega), if_pos (show (0 : Int) ≤ (z.length : Int) by omega), if_pos (show (z.length : Int) < (s : Int) by omega)]
      by_cases h2 : B l (z.getD a 0) x = B m a z.length
      · rw [h2]
        simp only [bne_self_eq_false, Bool.false_eq_true, if_false]
        have h3 : (B l x (z.getD a 0) != B m z.length a) = true := by
          rw [decide_eq_false h1, h2] at hp
          simpa using hp
        simp only [h3, if_true]
        exact Ev.now _
      · have h2' : (B l (z.getD a 0) x != B m a z.length) = true := by simpa using h2
        simp only [h2', if_true]
        exact Ev.now _
  · refine Ev.step (fun _ => rfl) ?_
    simp only [Aao.l0, if_neg (show ¬ (z.length : Int) < (z.length : Int) by omega), if_pos (show (0 : Int) ≤ (x : Int) by omega), h.len, if_pos (show (x : Int) < (n : Int) by omega), h.rd, orHas_eq _ x (by omega), if_pos (show (0 : Int) ≤ (z.length : Int) by omega), hm.len, if_pos (show (z.length : Int) < (s : Int) by omega), hm.rd, orHas_eq _ z.length (by omega), Option.bind_some, bit, bit']
    exact Ev.now _
def found2 (z : Option (List Nat)) : List Int × Bool := (found z, z.isSome)
theorem own_eq' (l : List Int) (h : l.length < 17592186044416) : Abd.f l = some l := by
  unfold Abd.f
  simp [h]
theorem orFind_ev {n s : Nat} {l m : List Int} (h : Rel n l) (hm : Rel s m) : ∀ d z, z.length + d = s → (∀ y ∈ z, y < n) → Ev (fun k => Aak.f k (n : Int) l (s : Int) m (ints z)) (found2 (findP n l m d z)) := by
  have hn := h.le
  have hs := hm.le
  intro d
  induction d with
  | zero =>
    intro z hz _
    refine Ev.step (fun _ => rfl) ?_
    simp only [Aak.f, ints_length, if_pos (show (z.length : Int) = (s : Int) by omega)]
    exact Ev.now _
  | succ d ih =>
    intro z hz hzn
    refine Ev.step (fun _ => rfl) ?_
    simp only [Aak.f, ints_length, if_neg (show ¬ (z.length : Int) = (s : Int) by omega)]
    have one : ∀ x r, x < n → ((if fits l m z x then findP n l m d (z ++ [x]) else none) = none → Ev (fun k => Aak.l0 k (ints z) ((x + 1 : Nat) : Int) (n : Int) l (s : Int) m) r) → (∀ b, (if fits l m z x then findP n l m d (z ++ [x]) else none) = some b → r = (ints b, true)) → Ev (fun k => Aak.l0 k (ints z) (x : Int) (n : Int) l (s : Int) m) r := by
      intro x r hx miss hit
      refine Ev.step (fun _ => rfl) ?_
      simp only [Aak.l0, if_pos (show (x : Int) < (n : Int) by omega)]
      refine Ev.bind (orFits_ev h hm z x (by omega) hzn hx) ?_
      cases hf : fits l m z x with
      | false =>
        simp only [Bool.false_eq_true, if_false, next64 x n hx (by omega)]
        exact miss (by rw [hf]; rfl)
      | true =>
        have e1 : ints z ++ [(x : Int)] = ints (z ++ [x]) := by simp [ints]
        simp only [if_true, own_eq' (ints z) (by rw [ints_length]; omega), Option.bind_some, ints_length, List.length_singleton, if_pos (show z.length + 1 < 17592186044416 by omega), e1]
        refine Ev.bind (ih (z ++ [x]) (by simp; omega) (fun y hy => by
          rcases List.mem_append.1 hy with hy | hy
          · exact hzn y hy
          · simp at hy; omega)) ?_
        cases hr : findP n l m d (z ++ [x]) with
        | none =>
          simp only [found2, Option.isSome_none, Bool.false_eq_true, if_false, next64 x n hx (by omega)]
          exact miss (by rw [hf, if_pos rfl]; exact hr)
        | some b =>
          simp only [found2, found, Option.isSome_some, if_true]
          rw [hit b (by rw [hf, if_pos rfl]; exact hr)]
          exact Ev.now _
    have stop : Ev (fun k => Aak.l0 k (ints z) (n : Int) (n : Int) l (s : Int) m) ([], false) := by
      refine Ev.step (fun _ => rfl) ?_
      simp only [Aak.l0, if_neg (show ¬ (n : Int) < (n : Int) by omega)]
      exact Ev.now _
    cases hf : findP n l m (d + 1) z with
    | none =>
      exact Ev.miss (fun x k => Aak.l0 k (ints z) (x : Int) (n : Int) l (s : Int) m) n _ hf (fun x r hx hm next => one x r hx (fun _ => next) (fun b hb => by rw [hm] at hb; cases hb)) stop
    | some r =>
      exact Ev.hit (enc := fun z => (ints z, true)) (fun x k => Aak.l0 k (ints z) (x : Int) (n : Int) l (s : Int) m) n _ hf (fun x b hx hb => one x _ hx (fun hn => by rw [hn] at hb; cases hb) (fun b' hb' => by rw [hb] at hb'; injection hb' with e; rw [e])) (fun x r hx hm next => one x r hx (fun _ => next) (fun b hb => by rw [hm] at hb; cases hb))
theorem sFindPattern_ev (n : Int) (l : List Int) (s : Int) (m : List Int) (hl : l.length ≤ 140737488355328) (hl' : m.length ≤ 140737488355328) : Ev (fun k => Abh.f k n l s m) (patOf n l s m) := by
  unfold Abh.f patOf
  refine Ev.bind (orRelation_ev n l hl) ?_
  cases hr : isRel n l with
  | false => simp only [Bool.false_eq_true, if_false, Bool.false_and]; exact Ev.now _
  | true =>
    simp only [if_true, Bool.true_and]
    refine Ev.bind (orRelation_ev s m hl') ?_
    cases hr' : isRel s m with
    | false => simp only [Bool.false_eq_true, if_false, Bool.false_and]; exact Ev.now _
    | true =>
      simp only [if_true, Bool.true_and]
      by_cases h6 : s > 6
      · simp only [if_pos h6, decide_eq_false (show ¬ s ≤ 6 by omega), Bool.false_eq_true, if_false]
        exact Ev.now _
      · simp only [if_neg h6, decide_eq_true (show s ≤ 6 by omega), if_true]
        obtain ⟨n, rfl, h⟩ := isRel_iff.1 hr
        obtain ⟨s, rfl, hm⟩ := isRel_iff.1 hr'
        refine Ev.bind (orFind_ev h hm s [] (by simp) (fun y hy => by simp at hy)) ?_
        rw [Int.toNat_natCast, Int.toNat_natCast]
        exact Ev.now _
def pl (z : List Nat) (a : Nat) : Nat := z.findIdx fun x => x == a
theorem pl_mem {z : List Nat} {a : Nat} (h : a ∈ z) : pl z a < z.length ∧ z.getD (pl z a) 0 = a := by
  have h1 : z.findIdx (fun x => x == a) < z.length := List.findIdx_lt_length_of_exists ⟨a, h, by simp⟩
  refine ⟨h1, ?_⟩
  have h2 := List.findIdx_getElem (xs := z) (p := fun x => x == a) (w := h1)
  unfold pl
  simpa [h1] using h2
theorem pl_least {z : List Nat} {a i : Nat} (hi : i < pl z a) : z.getD i 0 ≠ a := by
  have h1 : i < z.length := Nat.lt_of_lt_of_le hi List.findIdx_le_length
  have h2 := List.not_of_lt_findIdx (p := fun x => x == a) (xs := z) hi
  intro e
  apply Bool.eq_false_iff.1 h2
  simp [h1] at e
  simp [e]
structure Names (n : Nat) (z : List Nat) : Prop where
  len : z.length = n
  lt : ∀ x ∈ z, x < n
  all : ∀ x, x < n → x ∈ z
theorem Names.inj {n : Nat} {z : List Nat} (h : Names n z) {i j : Nat} (hi : i < n) (hj : j < n) (e : z.getD i 0 = z.getD j 0) : i = j := by
  apply Classical.byContradiction
  intro hne
  rcases Nat.lt_or_gt_of_ne hne with hl | hl
  · exact name_distinct h.len h.all j (by rw [h.len]; omega) (by
      rw [← e]
      have : z.getD i 0 = (z.take j).getD i 0 := by
        rw [List.getD_eq_getElem?_getD, List.getD_eq_getElem?_getD, List.getElem?_take, if_pos hl]
      rw [this]
      exact at_mem i (by rw [List.length_take, h.len]; omega))
  · exact name_distinct h.len h.all i (by rw [h.len]; omega) (by
      rw [e]
      have : z.getD j 0 = (z.take i).getD j 0 := by
        rw [List.getD_eq_getElem?_getD, List.getD_eq_getElem?_getD, List.getElem?_take, if_pos hl]
      rw [this]
      exact at_mem j (by rw [List.length_take, h.len]; omega))
theorem Names.pl {n : Nat} {z : List Nat} (h : Names n z) {a : Nat} (ha : a < n) : M.pl z a < n ∧ z.getD (M.pl z a) 0 = a := by
  have := pl_mem (h.all a ha)
  rw [h.len] at this
  exact this
theorem Names.pl_at {n : Nat} {z : List Nat} (h : Names n z) {i : Nat} (hi : i < n) : M.pl z (z.getD i 0) = i := by
  have hz : z.getD i 0 < n := h.lt _ (at_mem i (by rw [h.len]; exact hi))
  obtain ⟨h1, h2⟩ := h.pl hz
  exact h.inj h1 hi h2
def ren (n : Nat) (l : List Int) (z : List Nat) : List Int := relL n fun a b => B l (pl z a) (pl z b)
theorem ren_rel {n : Nat} {l : List Int} (h : Rel n l) (z : List Nat) : Rel n (ren n l z) := relL_rel n h.le _
theorem ren_B {n : Nat} {l : List Int} {z : List Nat} (hz : Names n z) {i j : Nat} (hi : i < n) (hj : j < n) : B (ren n l z) (z.getD i 0) (z.getD j 0) = B l i j := by
  unfold ren
  rw [relL_B, hz.pl_at hi, hz.pl_at hj]
  have h1 := hz.lt _ (at_mem i (by rw [hz.len]; exact hi))
  have h2 := hz.lt _ (at_mem j (by rw [hz.len]; exact hj))
  rw [decide_eq_true h1, decide_eq_true h2]
  simp
def partR (n : Nat) (l : List Int) (z : List Nat) (i q a b : Nat) : Bool := if pl z a < i then B l (pl z a) (pl z b) else if pl z a = i then decide (pl z b ∈ (elems n (row l i)).take q) else false
theorem pow_set (n j : Nat) (hj : j < n) : 2 ^ j = setOf n fun b => decide (b = j) := by
  apply Nat.eq_of_testBit_eq
  intro b
  rw [Nat.testBit_two_pow, testBit_setOf]
  by_cases e : b = j
  · subst e; simp [hj]
  · simp [e, Ne.symm e]
theorem RenameOf_ev {n : Nat} {l : List Int} (h : Rel n l) {z : List Nat} (hz : Names n z) : Ev (fun k => Aag.l0 k (ints z) l (n : Int) 0 (n : Int) (List.replicate n 0)) ((n : Int), ren n l z, true) := by
  have hn := h.le
  have e0 : (List.replicate n 0 : List Int) = relL n (partR n l z 0 0) := by
    apply List.ext_getElem
    · simp [relL]
    · intro i h1 h2
      have : setOf n (partR n l z 0 0 i) = 0 := by
        apply Nat.eq_of_testBit_eq
        intro j
        rw [testBit_setOf, Nat.zero_testBit]
        unfold partR
        simp
      simp [relL, this]
  rw [e0]
  refine Ev.up (fun i k => Aag.l0 k (ints z) l (n : Int) (i : Int) (n : Int) (relL n (partR n l z i 0))) n ?_ ?_
  · intro i hi next
    have hzi := hz.lt _ (at_mem i (by rw [hz.len]; exact hi))
    have hrow := h.row_lt i
    refine Ev.step (fun _ => rfl) ?_
    simp only [Aag.l0, if_pos (show (i : Int) < (n : Int) by omega), if_pos (show (0 : Int) ≤ (i : Int) by omega), h.len, h.rd]
    refine Ev.bind (members_ev n (by omega) _ hrow) ?_
    rw [ints_length]
    refine Ev.up (fun q k => Aag.l1 k (ints z) (i : Int) l (n : Int) (i : Int) (ints (elems n (row l i))) ((elems n (row l i)).length : Int) (q : Int) (n : Int) (relL n (partR n l z i q))) (elems n (row l i)).length ?_ ?_
    · intro q hq next
      have hle := elems_length_le n (row l i)
      have hj : (elems n (row l i)).getD q 0 < n ∧ (row l i).testBit ((elems n (row l i)).getD q 0) = true := mem_elems.1 (at_mem q hq)
      have hzj := hz.lt _ (at_mem ((elems n (row l i)).getD q 0) (by rw [hz.len]; exact hj.1))
      have e1 : relL n (partR n l z i (q + 1)) = relL n fun a b => if a = z.getD i 0 then (partR n l z i q (z.getD i 0) b || decide (b = z.getD ((elems n (row l i)).getD q 0) 0)) else partR n l z i q a b := by
        apply relL_congr
        intro a b ha hb
        by_cases e : a = z.getD i 0
        · rw [if_pos e]
          subst e
          unfold partR
          rw [hz.pl_at hi, if_neg (Nat.lt_irrefl i), if_pos rfl, if_neg (Nat.lt_irrefl i), if_pos rfl]
          rw [Bool.eq_iff_iff, Bool.or_eq_true, decide_eq_true_iff, decide_eq_true_iff, decide_eq_true_iff]
          have e2 : (elems n (row l i)).take (q + 1) = (elems n (row l i)).take q ++ [(elems n (row l i)).getD q 0] := by rw [List.take_add_one]; simp [hq]
          rw [e2, List.mem_append, List.mem_singleton]
          constructor
          · rintro (h1 | h1)
            · exact .inl h1
            · refine .inr ?_
              rw [← h1, (hz.pl hb).2]
          · rintro (h1 | h1)
            · exact .inl h1
            · refine .inr ?_
              rw [h1, hz.pl_at hj.1]
        · rw [if_neg e]
          unfold partR
          have : pl z a ≠ i := by
            intro e2
            have := (hz.pl ha).2
            rw [e2] at this
            exact e this.symm
          rw [if_neg this, if_neg this]
      have e3 : rd (relL n (partR n l z i q)) ((z.getD i 0 : Nat) : Int) = ((setOf n (partR n l z i q (z.getD i 0)) : Nat) : Int) := relL_rd n _ _ hzi
      refine Ev.step (fun _ => rfl) ?_
      simp only [Aag.l1, if_pos (show (q : Int) < ((elems n (row l i)).length : Int) by omega), if_pos (show (0 : Int) ≤ (q : Int) by omega), ints_length, if_pos (show (0 : Int) ≤ (i : Int) by omega), hz.len, if_pos (show (i : Int) < (n : Int) by omega), intsAt_ z i (by rw [hz.len]; exact hi), if_pos (show (0 : Int) ≤ ((z.getD i 0 : Nat) : Int) by omega), relL_length, if_pos (show ((z.getD i 0 : Nat) : Int) < (n : Int) by omega), intsAt_ (elems n (row l i)) q hq,
        if_pos (show (0 : Int) ≤ (((elems n (row l i)).getD q 0 : Nat) : Int) by omega), if_pos (show (((elems n (row l i)).getD q 0 : Nat) : Int) < (n : Int) by omega), intsAt_ z ((elems n (row l i)).getD q 0) (by rw [hz.len]; exact hj.1), if_pos (show (0 : Int) ≤ ((z.getD ((elems n (row l i)).getD q 0) 0 : Nat) : Int) by omega), e3, shl1 _ (show z.getD ((elems n (row l i)).getD q 0) 0 ≤ 62 by omega), pow_set n _ hzj, or_rows n hn, Int.toNat_natCast, next64 q _ hq (by omega)]
      rw [e1] at next
      rw [relL_set n _ _ hzi]
      exact next
    · refine Ev.step (fun _ => rfl) ?_
      simp only [Aag.l1, if_neg (show ¬ ((elems n (row l i)).length : Int) < ((elems n (row l i)).length : Int) by omega), next64 i n hi (by omega)]
      have e4 : relL n (partR n l z i (elems n (row l i)).length) = relL n (partR n l z (i + 1) 0) := by
        apply relL_congr
        intro a b ha hb
        unfold partR
        by_cases h1 : pl z a < i
        · rw [if_pos h1, if_pos (show pl z a < i + 1 by omega)]
        · rw [if_neg h1]
          by_cases h2 : pl z a = i
          · rw [if_pos h2, if_pos (show pl z a < i + 1 by omega), List.take_length, h2]
            rw [Bool.eq_iff_iff, decide_eq_true_iff, mem_elems]
            exact ⟨fun hh => hh.2, fun hh => ⟨(hz.pl hb).1, hh⟩⟩
          · rw [if_neg h2, if_neg (show ¬ pl z a < i + 1 by omega)]
            simp
      rw [e4]
      exact next
  · refine Ev.step (fun _ => rfl) ?_
    simp only [Aag.l0, if_neg (show ¬ (n : Int) < (n : Int) by omega)]
    have e5 : relL n (partR n l z n 0) = ren n l z := by
      apply relL_congr
      intro a b ha hb
      unfold partR
      rw [if_pos (hz.pl ha).1]
    rw [e5]
    exact Ev.now _
theorem orPart_ev' {n : Nat} {l : List Int} (h : Rel n l) (z : List Nat) (hz : z.length ≤ 20) (hzn : ∀ x ∈ z, x < n) : Ev (fun k => Aar.f k (n : Int) l (ints z)) ((z.length : Int), (List.range z.length).map fun a => ((setOf z.length (fun b => B l (z.getD a 0) (z.getD b 0)) : Nat) : Int)) := by
  have hn := h.le
  unfold Aar.f
  rw [ints_length]
  refine Ev.up (fun i k => Aar.l0 k (ints z) (ints z) (z.length : Int) (i : Int) (n : Int) l (z.length : Int) ((List.range i).map fun a => ((setOf z.length (fun b => B l (z.getD a 0) (z.getD b 0)) : Nat) : Int))) z.length ?_ ?_
  · intro i hi next
    have hzi := hzn _ (at_mem i hi)
    refine Ev.step (fun _ => rfl) ?_
    simp only [Aar.l0, if_pos (show (i : Int) < (z.length : Int) by omega), if_pos (show (0 : Int) ≤ (i : Int) by omega), ints_length, intsAt_ z i hi]
    refine Ev.up (fun j k => Aar.l1 k (ints z) ((z.getD i 0 : Nat) : Int) ((setOf j (fun b => B l (z.getD i 0) (z.getD b 0)) : Nat) : Int) (ints z) (z.length : Int) (i : Int) (ints z) (z.length : Int) (j : Int) (n : Int) l (z.length : Int) ((List.range i).map fun a => ((setOf z.length (fun b => B l (z.getD a 0) (z.getD b 0)) : Nat) : Int))) z.length ?_ ?_
    · intro j hj next
      have hzj := hzn _ (at_mem j hj)
      have hs := setOf_62 j (fun b => B l (z.getD i 0) (z.getD b 0)) (by omega)
      have h2 : (2 : Nat) ^ j < 9223372036854775808 := Nat.lt_of_le_of_lt (Nat.pow_le_pow_right (by decide) (by omega : j ≤ 62)) (by decide)
      have eb : (row l (z.getD i 0)).testBit (z.getD j 0) = B l (z.getD i 0) (z.getD j 0) := rfl
      refine Ev.step (fun _ => rfl) ?_
      rw [setOf_bit_or] at next
      simp only [Aar.l1, if_pos (show (j : Int) < (z.length : Int) by omega), if_pos (show (0 : Int) ≤ (j : Int) by omega), ints_length, intsAt_ z j hj, if_pos (show (0 : Int) ≤ ((z.getD i 0 : Nat) : Int) by omega), h.len, if_pos (show ((z.getD i 0 : Nat) : Int) < (n : Int) by omega), h.rd, orHas_eq _ (z.getD j 0) (by omega), Option.bind_some, eb, shl1 j (by omega), or_i64 _ _ hs h2, next64 j z.length hj (by omega)]
      cases hb : B l (z.getD i 0) (z.getD j 0) with
      | true => rw [hb] at next; simp only [if_true] at next ⊢; exact next
      | false => rw [hb] at next; simp only [Bool.false_eq_true, if_false] at next ⊢; exact next
    · refine Ev.step (fun _ => rfl) ?_
      simp only [Aar.l1, if_neg (show ¬ (z.length : Int) < (z.length : Int) by omega), List.length_map, List.length_range, if_pos (show i < 17592186044416 by omega), next64 i z.length hi (by omega)]
      rw [List.range_succ, List.map_append] at next
      exact next
  · refine Ev.step (fun _ => rfl) ?_
    simp only [Aar.l0, if_neg (show ¬ (z.length : Int) < (z.length : Int) by omega)]
    exact Ev.now _
theorem orPlace_at {n : Nat} {z : List Nat} (hz : Names n z) (hn : n ≤ 10) (a : Nat) (ha : a < n) : Ev (fun k => Abc.f k (ints z) (a : Int)) ((pl z a : Nat) : Int) := by
  obtain ⟨h1, h2⟩ := hz.pl ha
  unfold Abc.f
  rw [ints_length, hz.len]
  refine Ev.up (fun i k => Abc.l0 k (a : Int) (ints z) (n : Int) (i : Int)) (pl z a) ?_ ?_
  · intro i hi next
    have hne := pl_least hi
    refine Ev.step (fun _ => rfl) ?_
    simp only [Abc.l0, if_pos (show (i : Int) < (n : Int) by omega), if_pos (show (0 : Int) ≤ (i : Int) by omega), ints_length, hz.len, intsAt_ z i (by rw [hz.len]; omega), if_neg (show ¬ ((z.getD i 0 : Nat) : Int) = (a : Int) by omega), next64 i n (by omega) (by omega)]
    exact next
  · refine Ev.step (fun _ => rfl) ?_
    simp only [Abc.l0, if_pos (show ((pl z a : Nat) : Int) < (n : Int) by omega), if_pos (show (0 : Int) ≤ ((pl z a : Nat) : Int) by omega), ints_length, hz.len, intsAt_ z (pl z a) (by rw [hz.len]; exact h1), if_pos (show ((z.getD (pl z a) 0 : Nat) : Int) = (a : Int) by omega)]
    exact Ev.now _
theorem sRenameOf_l {n : Nat} {l : List Int} (h : Rel n l) {z : List Nat} (hz : Names n z) : Ev (fun k => Aap.l0 k (ints z) [] (n : Int) 0 (n : Int) l) ((n : Int), ren n l z, true) := by
  have hn := h.le
  refine Ev.up (fun i k => Aap.l0 k (ints z) (ints ((List.range i).map (pl z))) (n : Int) (i : Int) (n : Int) l) n ?_ ?_
  · intro i hi next
    refine Ev.step (fun _ => rfl) ?_
    simp only [Aap.l0, if_pos (show (i : Int) < (n : Int) by omega)]
    refine Ev.bind (orPlace_at hz hn i hi) ?_
    have e : ints ((List.range i).map (pl z)) ++ [((pl z i : Nat) : Int)] = ints ((List.range (i + 1)).map (pl z)) := by simp [ints, List.range_succ]
    simp only [ints_length, List.length_map, List.length_range, if_pos (show i < 17592186044416 by omega), e, next64 i n hi (by omega)]
    exact next
  · refine Ev.step (fun _ => rfl) ?_
    simp only [Aap.l0, if_neg (show ¬ (n : Int) < (n : Int) by omega)]
    refine Ev.bind (orPart_ev' h ((List.range n).map (pl z)) (by simp; omega) (fun x hx => by
      obtain ⟨a, ha, rfl⟩ := List.mem_map.1 hx
      exact (hz.pl (by simpa using ha)).1)) (Ev.to (Ev.now _) ?_)
    have e : ((List.range n).map (pl z)).length = n := by simp
    rw [e]
    have : (List.range n).map (fun a => ((setOf n (fun b => B l (((List.range n).map (pl z)).getD a 0) (((List.range n).map (pl z)).getD b 0)) : Nat) : Int)) = ren n l z := by
      apply relL_congr
      intro a b ha hb
      simp [ha, hb]
    rw [this]
def renOf (n : Int) (l z : List Int) : Int × List Int × Bool := if isRel n l && isName n.toNat z then (n, ren n.toNat l (z.map Int.toNat), true) else (0, [], false)
theorem names_of {n : Nat} {z : List Int} (h : isName n z = true) : ∃ t, z = ints t ∧ Names n t := by
  obtain ⟨t, rfl, h1, h2, h3⟩ := name_parts h
  exact ⟨t, rfl, h2, h1, h3⟩
theorem iRenameOf_ev (n : Int) (l z : List Int) (hl : l.length ≤ 140737488355328) (hz : z.length ≤ 140737488355328) : Ev (fun k => Aag.f k n l z) (renOf n l z) := by
  unfold Aag.f renOf
  refine Ev.bind (IsRelation_ev n l hl) ?_
  cases hr : isRel n l with
  | false =>
    simp only [Bool.false_eq_true, if_false, Bool.false_and]
    refine Ev.step (fun _ => rfl) ?_
    simp only [Aag.j0, if_true]
    exact Ev.now _
  | true =>
    obtain ⟨n, rfl, h⟩ := isRel_iff.1 hr
    have hn := h.le
    simp only [if_true, Bool.true_and, Int.toNat_natCast]
    refine Ev.bind (isNaming_ev n hn z hz) ?_
    refine Ev.step (fun _ => rfl) ?_
    cases hN : isName n z with
    | false => simp only [Aag.j0, Bool.not_false, if_true, Bool.false_eq_true, if_false]; exact Ev.now _
    | true =>
      obtain ⟨t, rfl, ht⟩ := names_of hN
      simp only [Aag.j0, Bool.not_true, Bool.false_eq_true, if_false, if_true, if_pos (show (0 : Int) ≤ (n : Int) by omega), Int.toNat_natCast, if_pos (show n ≤ 35184372088832 by omega), h.len, ints_nat]
      exact RenameOf_ev h ht
theorem sRenameOf_ev (n : Int) (l z : List Int) (hl : l.length ≤ 140737488355328) (hz : z.length ≤ 140737488355328) : Ev (fun k => Aap.f k n l z) (renOf n l z) := by
  unfold Aap.f renOf
  refine Ev.bind (orRelation_ev n l hl) ?_
  cases hr : isRel n l with
  | false =>
    simp only [Bool.false_eq_true, if_false, Bool.false_and]
    refine Ev.step (fun _ => rfl) ?_
    simp only [Aap.j0, if_true]
    exact Ev.now _
  | true =>
    obtain ⟨n, rfl, h⟩ := isRel_iff.1 hr
    have hn := h.le
    simp only [if_true, Bool.true_and, Int.toNat_natCast]
    refine Ev.bind (orNames_ev n hn z hz) ?_
    refine Ev.step (fun _ => rfl) ?_
    cases hN : isName n z with
    | false => simp only [Aap.j0, Bool.not_false, if_true, Bool.false_eq_true, if_false]; exact Ev.now _
    | true =>
      obtain ⟨t, rfl, ht⟩ := names_of hN
      simp only [Aap.j0, Bool.not_true, Bool.false_eq_true, if_false, if_true, ints_length, ht.len, ints_nat]
      exact sRenameOf_l h ht
theorem same_kind {n : Nat} {l : List Int} {z : List Nat} (hz : Names n z) : findP n l (ren n l z) n [] ≠ none := by
  refine findP_complete n [] ((List.range n).map (pl z)) ?_ (by simp) (fun x hx => by
    obtain ⟨a, ha, rfl⟩ := List.mem_map.1 hx
    exact (hz.pl (by simpa using ha)).1)
  intro a b ha hb
  have ha : a < n := by simpa using ha
  have hb : b < n := by simpa using hb
  have ea : ([] ++ (List.range n).map (pl z)).getD a 0 = pl z a := by simp [ha]
  have eb : ([] ++ (List.range n).map (pl z)).getD b 0 = pl z b := by simp [hb]
  rw [ea, eb]
  refine ⟨fun hne e => hne ?_, ?_⟩
  · rw [← (hz.pl ha).2, ← (hz.pl hb).2, e]
  · unfold ren
    rw [relL_B, decide_eq_true ha, decide_eq_true hb]
    rfl
theorem mx_eq (a b : Int) : mx a b = max a b := by
  unfold mx
  split <;> omega
theorem IsSameKind_ren {n : Nat} {l : List Int} (h : Rel n l) {z : List Nat} (hz : Names n z) : Ev (fun k => Aa4.f k (n : Int) l (n : Int) (ren n l z)) (decide (n ≤ 6), decide (n ≤ 6)) := by
  have hr := ren_rel h z
  unfold Aa4.f
  refine Ev.bind (IsRelation_ev _ l (by rw [h.len]; have := h.le; omega)) ?_
  rw [rel_is h]
  simp only [if_true]
  refine Ev.bind (IsRelation_ev _ _ (by rw [hr.len]; have := h.le; omega)) ?_
  rw [rel_is hr, mx_eq]
  simp only [if_true]
  by_cases h6 : n ≤ 6
  · simp only [if_neg (show ¬ max (n : Int) (n : Int) > 6 by omega), decide_eq_true h6]
    refine Ev.bind (pattern_ev h hr) ?_
    rw [found_nil]
    have : (findP n l (ren n l z) n []).isSome = true := by
      cases hf : findP n l (ren n l z) n [] with
      | none => exact absurd hf (same_kind hz)
      | some r => rfl
    rw [this]
    exact Ev.now _
  · simp only [if_pos (show max (n : Int) (n : Int) > 6 by omega), decide_eq_false h6]
    exact Ev.now _
end Go.Proofs.YtfjpilcmjabikaaDoor.M
namespace Go.Proofs.YtfjpilcmjabikaaDoor.Pure
open Go.RowKit Go.Proofs.YtfjpilcmjabikaaDoorW.PrintMore Go.Proofs.YtfjpilcmjabikaaDoorW.PrintLast Go.Proofs.YtfjpilcmjabikaaDoorW.PrintWords Go.Proofs.YtfjpilcmjabikaaDoor.P Go.Proofs.YtfjpilcmjabikaaDoor.M
set_option maxRecDepth 4000
theorem DrawFindPattern_tot {l : List Int} (hb : By l) : Tot (fun k => Aah.f k l) (fun r => r.2.1.length ≤ 10 ∧ r.2.2.2.length ≤ 12) := by
  unfold Aah.f
  refine Tot.bind (anyOrder_tot hb 0 0 7 (by omega) (by omega) (by omega) (by omega)) ?_
  rintro ⟨n, z, p, h⟩ ⟨hz, p0, p1⟩
  simp only at hz p0 p1
  have no : ∀ p h, 0 ≤ p → p ≤ 990000 → Tot (fun k => Aah.j0 k false l p h n z) (fun r => r.2.1.length ≤ 10 ∧ r.2.2.2.length ≤ 12) := by
    intro p h p0 p1
    refine Tot.step (fun _ => rfl) ?_
    simp only [Aah.j0, Bool.false_eq_true, if_false]
    refine Tot.bind (anyOrder_tot hb p h 5 p0 (by omega) (by omega) (by omega)) ?_
    rintro ⟨n', z', p', h'⟩ ⟨hz', _, _⟩
    simp only at hz'
    exact Tot.now ⟨hz, by simp only; omega⟩
  refine Tot.ebind (orRelation_ev n z (by omega)) ?_
  cases hr : isRel n z with
  | false => simp only [Bool.false_eq_true, if_false]; exact no _ _ (by omega) (by omega)
  | true =>
    simp only [if_true]
    obtain ⟨n, rfl, hR⟩ := isRel_iff.1 hr
    have hn := hR.le
    refine Tot.ite (fun hpos => ?_) (fun _ => no _ _ (by omega) (by omega))
    refine Tot.obind (one_ok hb p h 2 (by omega) (by omega)) ?_
    rintro ⟨b, p2, h2⟩ ⟨v2, v3⟩
    simp only at v2 v3
    simp only []
    cases b with
    | false => exact no _ _ (by omega) (by omega)
    | true =>
      refine Tot.step (fun _ => rfl) ?_
      simp only [Aah.j0, if_true]
      refine Tot.bind (names_tot hb p2 h2 (n : Int) (by omega) (by omega)) ?_
      rintro ⟨s, p3, h3⟩ ⟨hs, q0, q1⟩
      simp only at hs q0 q1
      refine Tot.ebind (orNames_ev n hn s (by omega)) ?_
      cases hN : isName n s with
      | false =>
        simp only [Bool.false_eq_true, if_false]
        refine Tot.bind (anyOrder_tot hb p3 h3 5 (by omega) (by omega) (by omega) (by omega)) ?_
        rintro ⟨n', z', p', h'⟩ ⟨hz', _, _⟩
        simp only at hz'
        exact Tot.now ⟨hz, by simp only; omega⟩
      | true =>
        obtain ⟨t, rfl, ht⟩ := names_of hN
        simp only [if_true]
        refine Tot.obind (pick_ok hb p3 h3 5 (by omega) (by omega)) ?_
        rintro ⟨c, p4, h4⟩ ⟨k0, k1, k2, k3⟩
        simp only at k0 k1 k2 k3
        simp only []
        refine Tot.obind (Q := fun v => 0 ≤ v ∧ v ≤ (n : Int)) ?_ ?_
        · unfold Abb.f
          split
          · exact ⟨_, rfl, by omega, by omega⟩
          · exact ⟨_, rfl, by omega, by omega⟩
        intro v hv
        obtain ⟨m, rfl⟩ := Int.eq_ofNat_of_zero_le hv.1
        have hm : m ≤ n := by omega
        simp only [if_pos hv.1, ints_length, ht.len, if_pos hv.2, Int.toNat_natCast]
        have et : (ints t).take m = ints (t.take m) := by simp [ints]
        rw [et]
        refine Tot.ebind (orPart_ev' hR (t.take m) (by rw [List.length_take, ht.len]; omega) (fun x hx => ht.lt x (List.mem_of_mem_take hx))) ?_
        exact Tot.now ⟨hz, by simp only [List.length_map, List.length_range, List.length_take, ht.len]; omega⟩
theorem DrawRenameOf_tot {l : List Int} (hb : By l) : Tot (fun k => Aa0.f k l) (fun r => r.2.1.length ≤ 10 ∧ r.2.2.length ≤ 12) := by
  unfold Aa0.f
  refine Tot.bind (anyOrder_tot hb 0 0 6 (by omega) (by omega) (by omega) (by omega)) ?_
  rintro ⟨n, z, p, h⟩ ⟨hz, p0, p1⟩
  simp only at hz p0 p1
  refine Tot.obind (Q := fun _ => True) ?_ ?_
  · unfold Abp.f
    split
    · exact ⟨_, rfl, trivial⟩
    · exact ⟨_, rfl, trivial⟩
  intro t _
  refine Tot.bind (names_tot hb p h t (by omega) (by omega)) ?_
  rintro ⟨z', p', h'⟩ ⟨hz', _, _⟩
  exact Tot.now ⟨hz, hz'⟩
theorem FnPatterns : P.Aad.Pure := by
  intro l0 l1 _ hl0 hb _ hl1 hb1
  have hB := by_wf hb
  have hB1 := by_wf hb1
  obtain ⟨⟨n, l, s, m⟩, hd, hlen, hlen'⟩ := DrawFindPattern_tot hB
  simp only at hlen hlen'
  refine Ev.rounds (g := fun k => Aad.f k l0 l1) ?_
  unfold Aad.f
  obtain ⟨b, hbig⟩ : ∃ b, Abo.f l0 l1 = some b := by
    unfold Abo.f
    split
    · exact ⟨_, rfl⟩
    · exact ⟨_, rfl⟩
  rw [hbig]
  simp only [Option.bind_some]
  cases b with
  | true => simp only [if_true]; exact Ev.now _
  | false =>
  simp only [Bool.false_eq_true, if_false]
  refine Ev.bind hd ?_
  refine Ev.bind (FindPattern_ev n l s m (by omega) (by omega)) ?_
  refine Ev.bind (sFindPattern_ev n l s m (by omega) (by omega)) ?_
  -- the names
  have second : Ev (fun k => Aad.j3 k l1) true := by
    obtain ⟨⟨n, l, z⟩, hd, hlen, hzl⟩ := DrawRenameOf_tot hB1
    simp only at hlen hzl
    refine Ev.step (fun _ => rfl) ?_
    simp only [Aad.j3]
    refine Ev.bind hd ?_
    refine Ev.bind (iRenameOf_ev n l z (by omega) (by omega)) ?_
    refine Ev.bind (sRenameOf_ev n l z (by omega) (by omega)) ?_
    have hrl : (renOf n l z).2.1.length ≤ 10 := by
      unfold renOf
      cases hr : isRel n l with
      | false => simp
      | true =>
        obtain ⟨n, rfl, h⟩ := isRel_iff.1 hr
        have := h.le
        split
        · simp only [ren, relL_length, Int.toNat_natCast]; omega
        · simp
    simp only [bne_self_eq_false, Bool.false_eq_true, if_false]
    refine Ev.bind (pSameOrder_ev _ _ _ _ (by omega)) ?_
    simp only [and_self, decide_true, Bool.not_true]
    refine Ev.step (fun _ => rfl) ?_
    simp only [Aad.j4, Bool.false_eq_true, if_false]
    cases hr : (isRel n l && isName n.toNat z) with
    | false =>
      have e : renOf n l z = (0, [], false) := by unfold renOf; rw [hr]; rfl
      rw [e]
      simp only [Bool.false_eq_true, if_false]
      exact Ev.now _
    | true =>
      have e : renOf n l z = (n, ren n.toNat l (z.map Int.toNat), true) := by unfold renOf; rw [hr]; rfl
      rw [e]
      rw [Bool.and_eq_true] at hr
      obtain ⟨hR, hN⟩ := hr
      obtain ⟨n, rfl, h⟩ := isRel_iff.1 hR
      rw [Int.toNat_natCast] at hN
      obtain ⟨t, rfl, ht⟩ := names_of hN
      have hn := h.le
      have hr := ren_rel h t
      simp only [if_true, ints_length, ht.len, ints_nat, Int.toNat_natCast]
      refine Ev.up (fun i k => Aad.l2 k (ints t) (n : Int) (i : Int) (n : Int) l (n : Int) (ren n l t)) n ?_ ?_
      · intro i hi next
        have hti := ht.lt _ (at_mem i (by rw [ht.len]; exact hi))
        refine Ev.step (fun _ => rfl) ?_
        simp only [Aad.l2, if_pos (show (i : Int) < (n : Int) by omega), ints_length, ht.len]
        refine Ev.up (fun j k => Aad.l3 k (ints t) (i : Int) (n : Int) (i : Int) (n : Int) (j : Int) (n : Int) l (n : Int) (ren n l t)) n ?_ ?_
        · intro j hj next
          have htj := ht.lt _ (at_mem j (by rw [ht.len]; exact hj))
          have e1 : (row l i).testBit j = B l i j := rfl
          have e2 : (row (ren n l t) (t.getD i 0)).testBit (t.getD j 0) = B l i j := ren_B ht hi hj
          refine Ev.step (fun _ => rfl) ?_
          simp only [Aad.l3, if_pos (show (j : Int) < (n : Int) by omega), if_pos (show (0 : Int) ≤ (i : Int) by omega), h.len, if_pos (show (i : Int) < (n : Int) by omega), h.rd, ints_length, ht.len, intsAt_ t i (by rw [ht.len]; exact hi), if_pos (show (0 : Int) ≤ ((t.getD i 0 : Nat) : Int) by omega), hr.len, if_pos (show ((t.getD i 0 : Nat) : Int) < (n : Int) by omega), hr.rd, if_pos (show (0 : Int) ≤ (j : Int) by omega), intsAt_ t j (by rw [ht.len]; exact hj),
            pIn_eq _ j (show j ≤ 64 by omega), pIn_eq _ (t.getD j 0) (show t.getD j 0 ≤ 64 by omega), Option.bind_some, e1, e2, bne_self_eq_false, Bool.false_eq_true, if_false, next64 j n hj (by omega)]
          exact next
        · refine Ev.step (fun _ => rfl) ?_
          simp only [Aad.l3, if_neg (show ¬ (n : Int) < (n : Int) by omega), next64 i n hi (by omega)]
          exact next
      · refine Ev.step (fun _ => rfl) ?_
        simp only [Aad.l2, if_neg (show ¬ (n : Int) < (n : Int) by omega)]
        refine Ev.bind (IsSameKind_ren h ht) ?_
        have e3 : (decide (n ≤ 6) == decide ((n : Int) ≤ 6)) = true := by
          rw [beq_iff_eq, Bool.eq_iff_iff, decide_eq_true_iff, decide_eq_true_iff]
          omega
        simp only [e3, if_true, beq_self_eq_true]
        exact Ev.now _
  have hpl : (patOf n l s m).1.length ≤ 10 := by
    unfold patOf
    cases hr : isRel n l with
    | false => simp
    | true =>
      cases hr' : isRel s m with
      | false => simp
      | true =>
        obtain ⟨n, rfl, h⟩ := isRel_iff.1 hr
        obtain ⟨s, rfl, hm⟩ := isRel_iff.1 hr'
        have := hm.le
        split
        · simp only [Int.toNat_natCast]
          cases hf : findP n l m s [] with
          | none => simp [found]
          | some r =>
            obtain ⟨_, h2, _⟩ := findP_some s [] r hf (fun x hx => by simp at hx) (good_nil _ _)
            simp only [found, ints_length]
            simp at h2
            omega
        · simp
  simp only [bne_self_eq_false, Bool.false_eq_true, if_false]
  refine Ev.bind (pSame_ev _ _ (by omega)) ?_
  simp only [decide_true, Bool.not_true]
  refine Ev.step (fun _ => rfl) ?_
  simp only [Aad.j0, Bool.false_eq_true, if_false]
  cases hok : (patOf n l s m).2 with
  | false => simp only [Bool.false_eq_true, if_false]; exact second
  | true =>
    simp only [if_true]
    obtain ⟨n, rfl, h, s, rfl, hm, r, hf, e⟩ : ∃ n' : Nat, n = n' ∧ ∃ h : Rel n' l, ∃ s' : Nat, s = s' ∧ ∃ hm : Rel s' m, ∃ r, findP n' l m s' [] = some r ∧ (patOf n l s m).1 = ints r := by
      unfold patOf at hok ⊢
      cases hr : isRel n l with
      | false => rw [hr] at hok; simp at hok
      | true =>
        cases hr' : isRel s m with
        | false => rw [hr, hr'] at hok; simp at hok
        | true =>
          rw [hr, hr'] at hok
          obtain ⟨n, rfl, h⟩ := isRel_iff.1 hr
          obtain ⟨s, rfl, hm⟩ := isRel_iff.1 hr'
          simp only [Bool.true_and, Int.toNat_natCast] at hok ⊢
          split at hok
          · rename_i h6
            cases hf : findP n l m s [] with
            | none => rw [hf] at hok; simp at hok
            | some r => exact ⟨n, rfl, h, s, rfl, hm, r, hf, by rw [if_pos h6]; rfl⟩
          · cases hok
    obtain ⟨g, hrl, hrn⟩ := findP_some s [] r hf (fun x hx => by simp at hx) (good_nil _ _)
    have hrl : r.length = s := by simpa using hrl
    have hn := h.le
    have hs := hm.le
    rw [e]
    simp only [ints_length, hrl]
    refine Ev.up (fun a k => Aad.l0 k l1 (ints r) (ints r) (s : Int) (a : Int) (n : Int) l (s : Int) m) s ?_ ?_
    · intro a ha next
      have hra := hrn _ (at_mem a (by rw [hrl]; exact ha))
      refine Ev.step (fun _ => rfl) ?_
      simp only [Aad.l0, if_pos (show (a : Int) < (s : Int) by omega), if_pos (show (0 : Int) ≤ (a : Int) by omega), ints_length, hrl, intsAt_ r a (by rw [hrl]; exact ha)]
      refine Ev.up (fun b k => Aad.l1 k l1 (ints r) (a : Int) ((r.getD a 0 : Nat) : Int) (ints r) (s : Int) (a : Int) (ints r) (s : Int) (b : Int) (n : Int) l (s : Int) m) s ?_ ?_
      · intro b hb' next
        have hrb := hrn _ (at_mem b (by rw [hrl]; exact hb'))
        obtain ⟨g1, g2⟩ := g a b (by rw [hrl]; exact ha) (by rw [hrl]; exact hb')
        have e1 : (row l (r.getD a 0)).testBit (r.getD b 0) = B m a b := g2
        have e2 : (row m a).testBit b = B m a b := rfl
        refine Ev.step (fun _ => rfl) ?_
        by_cases hab : a = b
        · simp only [Aad.l1, if_pos (show (b : Int) < (s : Int) by omega), if_pos (show (0 : Int) ≤ (b : Int) by omega), ints_length, hrl, if_pos (show (a : Int) = (b : Int) by omega), if_pos (show (0 : Int) ≤ ((r.getD a 0 : Nat) : Int) by omega), h.len, if_pos (show ((r.getD a 0 : Nat) : Int) < (n : Int) by omega), h.rd, intsAt_ r b (by rw [hrl]; exact hb'), if_pos (show (0 : Int) ≤ (a : Int) by omega), hm.len, if_pos (show (a : Int) < (s : Int) by omega), hm.rd,
            pIn_eq _ (r.getD b 0) (show r.getD b 0 ≤ 64 by omega), pIn_eq _ b (show b ≤ 64 by omega), Option.bind_some, e1, e2, bne_self_eq_false, Bool.false_eq_true, if_false, next64 b s hb' (by omega)]
          exact next
        · have g1 := g1 hab
          simp only [Aad.l1, if_pos (show (b : Int) < (s : Int) by omega), if_pos (show (0 : Int) ≤ (b : Int) by omega), ints_length, hrl, if_neg (show ¬ (a : Int) = (b : Int) by omega), intsAt_ r b (by rw [hrl]; exact hb'), if_neg (show ¬ ((r.getD a 0 : Nat) : Int) = ((r.getD b 0 : Nat) : Int) by omega), if_pos (show (0 : Int) ≤ ((r.getD a 0 : Nat) : Int) by omega), h.len, if_pos (show ((r.getD a 0 : Nat) : Int) < (n : Int) by omega), h.rd, if_pos (show (0 : Int) ≤ (a : Int) by omega), hm.len, if_pos (show (a : Int) < (s : Int) by omega), hm.rd,
            pIn_eq _ (r.getD b 0) (show r.getD b 0 ≤ 64 by omega), pIn_eq _ b (show b ≤ 64 by omega), Option.bind_some, e1, e2, bne_self_eq_false, Bool.false_eq_true, if_false, next64 b s hb' (by omega)]
          exact next
      · refine Ev.step (fun _ => rfl) ?_
        simp only [Aad.l1, if_neg (show ¬ (s : Int) < (s : Int) by omega), next64 a s ha (by omega)]
        exact next
    · refine Ev.step (fun _ => rfl) ?_
      simp only [Aad.l0, if_neg (show ¬ (s : Int) < (s : Int) by omega), ints_length, hrl, if_true]
      exact second
end Go.Proofs.YtfjpilcmjabikaaDoor.Pure
namespace Go.Proofs.YtfjpilcmjabikaaDoorW.PrintWords
open Go.ChangeShapes Go.WideShapes
theorem sized_ints {H : Type} {enc : TypeId × Value → H} {P : Program} {W : World} {base : Nat} {spare : Nat → Bool} {held : Bool} {t e : TypeId} {k : IntKind} {a : Option Addr} {len cap : Nat} {d : DataW H} {ps : List MemPlace} {ts : List TypeId} {ds : List (DataW H)} {j : Nat}
    (hsz : (DataW.weightsEach P ts ds).all (· ≤ reachBytes) = true) (ht : ts[j]? = some t) (hd : ds[j]? = some d) (hu : P.underlying t = some (.slice e)) (he : P.underlying e = some (.int k)) (hc : P.cellsOf e = 1) {B : Nat} (hB : P.bytesOf e = B)
    (h : DataW.Trod enc P W base spare held t (.slice a len cap) d ps) : len * B ≤ 140737488351232 := by
  obtain ⟨fuel, hf⟩ := h
  rcases open_ints hu he hc hf with ⟨hcs, _⟩ | ⟨x, l, c, zs, hcs, _, hl, _, hz, hx, _, _⟩
  · simp [Value.cells] at hcs
    obtain ⟨rfl, rfl, rfl⟩ := hcs
    simp
  · simp [Value.cells] at hcs
    obtain ⟨rfl, rfl, rfl⟩ := hcs
    obtain ⟨hx, _⟩ := Prod.mk.inj hx
    subst hx
    have z := sized_slice hsz ht hd hu
    rw [hB] at z
    have hl2 : len ≤ zs.length := by
      rw [hz]
      split
      · exact hl
      · exact Nat.le_refl _
    have h1 : (lits (H := H) k (zs.take len)).length + (lits (H := H) k (zs.drop len)).length = zs.length := by
      simp [lits]
      omega
    rw [h1] at z
    exact Nat.le_trans (Nat.mul_le_mul_right _ hl2) z
end Go.Proofs.YtfjpilcmjabikaaDoorW.PrintWords
namespace Go.Proofs.YtfjpilcmjabikaaDoor.fnPatterns
open Go.ChangeShapes Go.WideShapes Go.ChangeAt Go.RowKit
open Go.ChangeMaps (open_string shut_string)
open Go.Proofs.YtfjpilcmjabikaaDoorW
set_option linter.unusedVariables false
theorem own : ownKnob Tryd.prog.godebug = none := by kernel_rfl
theorem laidOut : laidOutB Tryd.prog = true := by kernel_rfl
def IsRow (k : IntKind) (w : World) (a : Option Addr) (len cap : Nat) (zs : List Int) : Prop :=
  (a = none ∧ len = 0 ∧ cap = 0 ∧ zs = []) ∨
  ∃ x, a = some x ∧ len ≤ cap ∧ cap ≤ maxLen ∧ zs.length = cap ∧ (∀ i, i < zs.length → w.cell? (x.add i) = some (.int k (zs.getD i 0))) ∧ ∀ n ∈ zs, (Lit.int k n).wf = true
theorem gT : Tryd.prog.globalNamed "math/bits.deBruijn64tab" = some 1 := by kernel_rfl
theorem tT : (Tryd.prog.globals[1]?).map (·.type) = some 122 := by kernel_rfl
theorem cT : Tryd.prog.cellsOf 122 = 64 := by kernel_rfl
theorem cE : Tryd.prog.cellsOf 5 = 1 := by kernel_rfl
def tab64 : List Int := Lib.deBruijn64tab.map fun (z : Nat) => (z : Int)
theorem tab64_at : ∀ j, j < 64 → tab64.getD j 0 = ((Lib.deBruijn64tab.getD j 0 : Nat) : Int) := by decide +kernel
theorem table {W : World} (h : laidMetH Tryd.prog Rows.fnPatternsRow.laid W) : P.TabOK W := by
  rw [MakeChecks.laidMetH_plain _ _ _ (by kernel_rfl)] at h
  have h1 : laidMet Tryd.prog [("math/bits.deBruijn32tab", Rows.laid_math_bits_deBruijn32tab), ("math/bits.deBruijn64tab", Lib.tabData .u8 tab64)] W := h
  have h0 := laidMet.tail (h1)
  have ht := Lib.tabIs_of_head gT tT Tryd.underlying122 Tryd.underlying5 cE cT h0
  intro j hj
  rw [ht.cell gT j (by exact hj), tab64_at j hj]
theorem door_met (os : Os) (args : Array Value) : laidMetH Tryd.prog Rows.fnPatternsRow.laid ((World.doorLaid Tryd.prog 400 os).forCall (fun _ _ => 0) ⟨#[], args, []⟩).memory :=
  laidMetH_of_parts3 (fuel := 8) (laidMet_of_run' 8 (by kernel_rfl) (by kernel_rfl)) (by kernel_rfl) (by kernel_rfl)
set_option maxRecDepth 100000 in
theorem lifted (os : Os) (started : os.Started) (H : Type) (enc : TypeId × Value → H) :
    ReturnsInHanded {} Tryd.checked os 5 .any (fun w args => (Rows.fnPatternsSpec.pre enc Tryd.prog Tryd.f5 [] false w args ∧ laidMetH Tryd.prog Rows.fnPatternsRow.laid w) ∧ sizedMet enc Tryd.prog Tryd.f5 (OpenSpec.ofChange Rows.fnPatternsSpec) false w args)
      (Rows.fnPatternsSpec.post enc Tryd.prog Tryd.f5 false true false false) := by
  refine returnsInHanded_of_change_and (C := Tryd.checked) (X := fun w _ => laidMetH Tryd.prog Rows.fnPatternsRow.laid w) (fun _ _ _ hh h => h.of_heap hh) own started (by kernel_rfl) Tryd.func5
    (ChangeSpec.witness_shaped (enc := enc) (C := Tryd.checked) (os := os) (X := fun w _ => laidMetH Tryd.prog Rows.fnPatternsRow.laid w) false (World.doorLaid Tryd.prog 400 os) #[.slice none 0 0, .slice none 0 0] 8 rfl (World.shaped_of_RefB (by kernel_rfl) (by kernel_rfl)) (by kernel_rfl) (by kernel_rfl) (by kernel_rfl) (door_met os _)) ?_
  intro W base args ds gs before hval0 hW hcnd hsz0 hL _
  have hsz : (DataW.weightsEach Tryd.prog (Tryd.f5.params.toList ++ Rows.fnPatternsSpec.plain.varTypes Tryd.prog) (ds ++ gs)).all (· ≤ reachBytes) = true := hsz0
  have hval : ∀ (j : Nat) t v, Tryd.f5.params[j]? = some t → args[j]? = some v → Value.okWide Tryd.prog W .any base t v := hval0
  have hW' := hW
  obtain ⟨p, q, hA0, hV, rfl, hfz, hnd⟩ := hW
  have hA : DataW.TrodAll enc Tryd.prog W 0 (fun _ => true) true Tryd.f5.params.toList args.toList ds p := hA0
  rw [Tryd.params5] at hA hval hsz
  obtain ⟨v0, vs0, d0, ds0, p0, q0, hargs, rfl, rfl, h0, r0⟩ := trodAll_cons hA
  obtain ⟨v1, vs1, d1, ds1, p1, q1, rfl, rfl, rfl, h1, r1⟩ := trodAll_cons r0
  obtain ⟨rfl, rfl, rfl⟩ := trodAll_nil r1
  obtain rfl : args = #[v0, v1] := by cases args; simp_all
  obtain ⟨rfl, rfl⟩ := trodVars_none hV
  obtain ⟨a0, len0, cap0, rfl⟩ := okWide_slice Tryd.underlying22 (hval 0 22 v0 rfl rfl)
  have k0 := h0
  have lt0 : ∀ x ∈ p0, x.block < W.heap.size := by obtain ⟨m, hm⟩ := k0; exact DataW.trod_lt m _ _ _ hm
  obtain ⟨z0, w0⟩ : ∃ zs, IsRow .u8 W a0 len0 cap0 zs := by
    obtain ⟨fuel, hf⟩ := h0
    rcases open_ints Tryd.underlying22 Tryd.underlying5 (by kernel_rfl) hf with ⟨hcs, _⟩ | ⟨x, l, c, zs, hcs, _, hl, hm, hz, _, hcell, hwz⟩
    · simp [Value.cells] at hcs
      obtain ⟨rfl, rfl, rfl⟩ := hcs
      exact ⟨[], .inl ⟨rfl, rfl, rfl, rfl⟩⟩
    · simp [Value.cells] at hcs
      obtain ⟨rfl, rfl, rfl⟩ := hcs
      exact ⟨zs, .inr ⟨_, rfl, hl, hm, by simpa using hz, hcell, hwz⟩⟩
  have y0 : len0 * 1 ≤ 140737488351232 := PrintWords.sized_ints hsz (j := 0) (t := 22) rfl rfl Tryd.underlying22 Tryd.underlying5 (by kernel_rfl) (by kernel_rfl) h0
  obtain ⟨a1, len1, cap1, rfl⟩ := okWide_slice Tryd.underlying22 (hval 1 22 v1 rfl rfl)
  have k1 := h1
  have lt1 : ∀ x ∈ p1, x.block < W.heap.size := by obtain ⟨m, hm⟩ := k1; exact DataW.trod_lt m _ _ _ hm
  obtain ⟨z1, w1⟩ : ∃ zs, IsRow .u8 W a1 len1 cap1 zs := by
    obtain ⟨fuel, hf⟩ := h1
    rcases open_ints Tryd.underlying22 Tryd.underlying5 (by kernel_rfl) hf with ⟨hcs, _⟩ | ⟨x, l, c, zs, hcs, _, hl, hm, hz, _, hcell, hwz⟩
    · simp [Value.cells] at hcs
      obtain ⟨rfl, rfl, rfl⟩ := hcs
      exact ⟨[], .inl ⟨rfl, rfl, rfl, rfl⟩⟩
    · simp [Value.cells] at hcs
      obtain ⟨rfl, rfl, rfl⟩ := hcs
      exact ⟨zs, .inr ⟨_, rfl, hl, hm, by simpa using hz, hcell, hwz⟩⟩
  have y1 : len1 * 1 ≤ 140737488351232 := PrintWords.sized_ints hsz (j := 1) (t := 22) rfl rfl Tryd.underlying22 Tryd.underlying5 (by kernel_rfl) (by kernel_rfl) h1
  clear hA0 hval0 hsz0 hsz
  refine (P.Aad.walk Pure.FnPatterns a0 len0 cap0 z0 a1 len1 cap1 z1 W w0 y0 w1 y1 (table hL)).mono fun e W' ⟨he, bel⟩ => ?_
  subst he
  exact ⟨_, rfl, _, _, _, [], _, [], hW', trodAll_mk1 (shut_bool Tryd.underlying4 _), (trodAll_cons_mk (Below.trod laidOut (by kernel_rfl) (of_decide_eq_true (by kernel_rfl)) k0 bel lt0) (trodAll_cons_mk (Below.trod laidOut (by kernel_rfl) (of_decide_eq_true (by kernel_rfl)) k1 bel lt1) trodAll_mk0)), rfl, bel.frame _, fun h => by cases h⟩
set_option maxHeartbeats 8000000 in
theorem named_ : Tryd.pinned.checked.prog.funcNamed "loop.example/g01106/laws.FnPatterns" = some 5 := by kernel_rfl
set_option maxHeartbeats 8000000 in
theorem joined_ : joinedFacts Tryd.pinned.checked.prog 5 Tryd.f5 Rows.fnPatternsSpec Rows.fnPatternsRow = true := by
  unfold joinedFacts
  repeat' (with_reducible refine (Bool.and_eq_true_iff).2 ⟨?_, ?_⟩)
  all_goals (as_aux_lemma => kernel_rfl)
theorem over : Rows.fnPatternsRow.holds Tryd.pinned (OpenSpec.ofChange Rows.fnPatternsSpec) :=
  OpenClaim.holds_of_wide 5 Tryd.f5 rfl rfl rfl rfl rfl rfl rfl ⟨rfl, rfl, rfl, rfl, rfl⟩ rfl rfl rfl rfl rfl named_ Tryd.func5 joined_
    (of_decide_eq_true (by kernel_rfl)) (by unfold Func.isWrapper; first | (rw [if_pos (by decide +kernel)]; kernel_rfl) | (rw [if_neg (by decide +kernel)]; exact ⟨rfl, rfl⟩))
    (fun os started H enc _ => lifted os started H enc)
set_option maxHeartbeats 8000000 in
theorem main_ : Tryd.pinned.checked.prog.mainIs = some (true, "cbc73dea4075ecc5178c1d86ac8785e85380fe9f1c42682a40ca8edfcba2920b".toList) := by kernel_rfl
set_option maxHeartbeats 8000000 in
theorem looks_ : false = Tryd.pinned.checked.prog.looks [] := by kernel_rfl
theorem stand_ : ([22].all fun u => !Tryd.prog.wantsStandIn u) = true := by kernel_rfl
set_option maxHeartbeats 8000000 in
theorem goes_ : false = Rows.fnPatternsRow.goesBy Tryd.pinned.checked.prog := by kernel_rfl
theorem wf_ : Rows.fnPatternsRow.wfByText (OpenSpec.ofChange Rows.fnPatternsSpec) = true := by kernel_rfl
theorem proved : Rows.FnPatternsCardSaid :=
  Claim7.holds_tied_plain_at .later [] [.data, .data] true (true, "cbc73dea4075ecc5178c1d86ac8785e85380fe9f1c42682a40ca8edfcba2920b") false
    over (fun _ h => by cases h) wf_ (fun _ h => by cases h) fnPatterns_row_tie rfl ⟨rfl, rfl⟩ main_ rfl
    (fun f fn hf hfn => by
      obtain rfl : f = 5 := Option.some.inj (named_.symm.trans hf) |>.symm
      obtain rfl : fn = Tryd.f5 := (Option.some.inj (Tryd.func5.symm.trans hfn)).symm
      exact ⟨looks_, fun j t ht => by
        rw [Tryd.params5] at ht
        have hm : t ∈ [22] := by have hq := Array.mem_of_getElem? ht; simp at hq; simp [hq]
        exact (show Tryd.prog.wantsStandIn t = false by simpa using List.all_eq_true.1 stand_ t hm)⟩)
    goes_
end Go.Proofs.YtfjpilcmjabikaaDoor.fnPatterns
namespace Go.Proofs.YtfjpilcmjabikaaDoor
theorem fnPatterns_holds : Rows.FnPatternsCardSaid := fnPatterns.proved
end Go.Proofs.YtfjpilcmjabikaaDoor
