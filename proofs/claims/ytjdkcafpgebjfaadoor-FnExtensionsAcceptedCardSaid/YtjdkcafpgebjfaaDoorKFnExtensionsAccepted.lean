/- The law FnExtensionsAccepted holds at every input. Written by wip/pack.py: the kit's printed words that are used, the functions' walks as wip/gen.py prints them, and hand proofs. -/
import Derived.Test.YtjdkcafpgebjfaaDoorKFnExtensionsAccepted5
import Derived.SizedLaws
import Derived.ChangeSlices
import Derived.Test.YtjdkcafpgebjfaaDoorRows
import Derived.Test.YtjdkcafpgebjfaaDoorCards
import Derived.Test.YtjdkcafpgebjfaaDoorTie
import Derived.WalkKit
import Derived.ProofKit
import Derived.OpenShut
import Derived.ShutString
import Derived.ChangeOld
import Derived.Below
import Derived.LaidMore
import Derived.Stop.Joined
import Derived.Stop.LaidErr
import Derived.Lib.LaidTab
import Derived.Lib.SmallJoins
import Derived.SevenTiedAt
namespace Go.Proofs.YtjdkcafpgebjfaaDoor.M
open Go.RowKit Go.Proofs.YtjdkcafpgebjfaaDoorW.PrintMore Go.Proofs.YtjdkcafpgebjfaaDoorW.PrintLast Go.Proofs.YtjdkcafpgebjfaaDoorW.PrintWords Go.Proofs.YtjdkcafpgebjfaaDoor.P
theorem length_all (n : Nat) (l : List Nat) (h : ∀ x, x < n → x ∈ l) : n ≤ l.length := by
  induction n generalizing l with
  | zero => omega
  | succ n ih =>
    have hm := h n (by omega)
    have := ih (l.erase n) (fun x hx => (List.mem_erase_of_ne (by omega)).2 (h x (by omega)))
    rw [List.length_erase_of_mem hm] at this
    have := List.length_pos_of_mem hm
    omega
def free (n : Nat) (l : List Int) (F : List Nat) (x : Nat) : Bool := !(decide (x ∈ F)) && diff (bel n l x) (setN F) == 0
theorem sub_lt {a b : Nat} (h : ∀ j, a.testBit j = true → b.testBit j = true) (hne : a ≠ b) : a < b := by
  have e : a = a &&& b := by
    apply Nat.eq_of_testBit_eq
    intro j
    rw [Nat.testBit_and]
    cases ha : a.testBit j with
    | false => rfl
    | true => rw [h j ha]; rfl
  have : a ≤ b := by rw [e]; exact Nat.and_le_right
  omega
theorem free_ex {n : Nat} {l : List Int} (o : Ord n l) (F : List Nat) (hF : F.length < n) : ∃ x, x < n ∧ free n l F x = true := by
  obtain ⟨x, hx, hxF⟩ : ∃ x, x < n ∧ x ∉ F := by
    apply Classical.byContradiction
    intro hc
    have := length_all n F fun x hx => Classical.byContradiction fun hn => hc ⟨x, hx, hn⟩
    omega
  have key : ∀ m x, bel n l x < m → x < n → x ∉ F → ∃ x, x < n ∧ free n l F x = true := by
    intro m
    induction m with
    | zero => intro x h; omega
    | succ m ih =>
      intro x hm hx hxF
      by_cases hd : diff (bel n l x) (setN F) = 0
      · exact ⟨x, hx, by simp [free, hxF, hd]⟩
      · rw [diff_zero] at hd
        obtain ⟨y, hy⟩ := Classical.not_forall.1 hd
        obtain ⟨hy1, hy2⟩ := Classical.not_imp.1 hy
        rw [testBit_bel o.toRel] at hy1
        rw [testBit_setN, decide_eq_true_iff] at hy2
        refine ih y ?_ (o.toRel.B_lt' hy1) hy2
        have : bel n l y < bel n l x := by
          apply sub_lt
          · intro j hj
            rw [testBit_bel o.toRel] at hj ⊢
            exact o.trans _ _ _ hj hy1
          · intro he
            have h1 := testBit_bel o.toRel x y
            rw [← he, testBit_bel o.toRel, hy1, o.irr] at h1
            cases h1
        omega
  exact key _ x (Nat.lt_succ_self _) hx hxF
theorem free_least {n : Nat} {l : List Int} (o : Ord n l) (F : List Nat) (hF : F.length < n) : ∃ x, x < n ∧ free n l F x = true ∧ ∀ y, y < x → free n l F y = false := by
  obtain ⟨x, hx, h⟩ := free_ex o F hF
  obtain ⟨j, hj, h1, h2⟩ := least_false (n := n) (p := fun x => !free n l F x) ⟨x, hx, by simp [h]⟩
  exact ⟨j, hj, by simpa using h1, fun y hy => by simpa using h2 y hy⟩
structure Greedy (n : Nat) (l : List Int) (F : List Nat) : Prop where
  lt : ∀ x ∈ F, x < n
  le : F.length ≤ n
  least : ∀ i, i < F.length → ∀ y, y < n → free n l (F.take i) y = true → F.getD i 0 ≤ y
  ok : ∀ i, i < F.length → free n l (F.take i) (F.getD i 0) = true
theorem Greedy.nil (n : Nat) (l : List Int) : Greedy n l [] := ⟨by simp, by simp, by simp, by simp⟩
theorem Greedy.snoc {n : Nat} {l : List Int} {F : List Nat} (g : Greedy n l F) (hF : F.length < n) {x : Nat} (hx : x < n) (hf : free n l F x = true) (h2 : ∀ y, y < x → free n l F y = false) : Greedy n l (F ++ [x]) where
  ok := by
    intro i hi
    rw [List.length_append, List.length_singleton] at hi
    by_cases hi2 : i < F.length
    · have e : (F ++ [x]).getD i 0 = F.getD i 0 := by simp [List.getElem?_append_left hi2, hi2]
      rw [e, List.take_append_of_le_length (by omega)]
      exact g.ok i hi2
    · have hi3 : i = F.length := by omega
      subst hi3
      have e : (F ++ [x]).getD F.length 0 = x := by simp
      rw [e, List.take_append_of_le_length (Nat.le_refl _), List.take_length]
      exact hf
  lt := by
    intro y hy
    rw [List.mem_append, List.mem_singleton] at hy
    rcases hy with hy | rfl
    · exact g.lt y hy
    · exact hx
  le := by simp; omega
  least := by
    intro i hi y hy hf
    rw [List.length_append, List.length_singleton] at hi
    by_cases hi2 : i < F.length
    · have e : (F ++ [x]).getD i 0 = F.getD i 0 := by simp [List.getElem?_append_left hi2, hi2]
      rw [e]
      refine g.least i hi2 y hy ?_
      rwa [List.take_append_of_le_length (by omega)] at hf
    · have hi3 : i = F.length := by omega
      subst hi3
      have e : (F ++ [x]).getD F.length 0 = x := by simp
      rw [e]
      rw [List.take_append_of_le_length (Nat.le_refl _), List.take_length] at hf
      apply Nat.le_of_not_lt
      intro hc
      rw [h2 y hc] at hf
      cases hf
theorem FirstExtension_tot {n : Nat} {l : List Int} (o : Ord n l) : Tot (fun k => impl_FirstExtension.f k (n : Int) l) (fun r => r.2 = true ∧ ∃ F, r.1 = ints F ∧ Greedy n l F ∧ F.length = n) := by
  have hn := o.le
  have hm := mir_rel o.toRel
  unfold impl_FirstExtension.f
  refine Tot.ebind (Ev.to (IsOrder_ev n l (by have := o.len; omega)) (isOrd_iff.2 ⟨n, rfl, o⟩)) ?_
  simp only [if_true]
  refine Tot.ebind (mirror_ev o.toRel) ?_
  refine Tot.up (fun i (F : List Nat) k => impl_FirstExtension.l0 k (ints F) ((setN F : Nat) : Int) (n : Int) l (n : Int) (mir n l)) n (fun i F => Greedy n l F ∧ F.length = i) ?_ ?_ 0 (Nat.zero_le _) [] ⟨Greedy.nil n l, rfl⟩
  · rintro i F hi ⟨g, hF⟩ next
    subst hF
    obtain ⟨x, hx, hf, hl⟩ := free_least o F hi
    have hfx := hf
    have h62 := setN_62 F n (by omega) g.lt
    refine Tot.step (fun _ => rfl) ?_
    simp only [impl_FirstExtension.l0, ints_length, if_pos (show (F.length : Int) < (n : Int) by omega)]
    refine Tot.up (fun j (_ : Unit) k => impl_FirstExtension.l1 k (ints F) ((setN F : Nat) : Int) (n : Int) (j : Int) (n : Int) l (n : Int) (mir n l)) x (fun _ _ => True) ?_ ?_ 0 (Nat.zero_le _) () trivial
    · intro j _ hj _ next
      refine Tot.step (fun _ => rfl) ?_
      simp only [impl_FirstExtension.l1, if_pos (show (j : Int) < (n : Int) by omega), if_pos (show (0 : Int) ≤ (j : Int) by omega), and_bit _ j h62 (show j ≤ 64 by omega), testBit_setN, hm.len, hm.rd, andNot_i64 _ _ (hm.row_62 _) h62, next64 j x hj (by omega)]
      have hfj := hl j hj
      unfold free at hfj
      by_cases hjF : j ∈ F
      · simp only [hjF, decide_true, if_true]
        simp only [if_neg (show ¬ (1 : Int) = 0 by decide)]
        exact next () trivial
      · simp only [hjF, decide_false, Bool.not_false, Bool.true_and, beq_eq_false_iff_ne] at hfj
        simp only [hjF, decide_false, Bool.false_eq_true, if_false, if_true]
        simp only [if_neg (show ¬ ((diff (row (mir n l) j) (setN F) : Nat) : Int) = 0 by unfold bel at hfj; omega)]
        exact next () trivial
    · intro _ _
      refine Tot.step (fun _ => rfl) ?_
      unfold free at hf
      simp only [Bool.and_eq_true, Bool.not_eq_true', decide_eq_false_iff_not, beq_iff_eq] at hf
      simp only [impl_FirstExtension.l1, if_pos (show (x : Int) < (n : Int) by omega), if_pos (show (0 : Int) ≤ (x : Int) by omega), and_bit _ x h62 (show x ≤ 64 by omega), testBit_setN, hm.len, hm.rd, andNot_i64 _ _ (hm.row_62 _) h62, hf.1, decide_false, Bool.false_eq_true, if_false, if_true]
      simp only [if_pos (show ((diff (row (mir n l) x) (setN F) : Nat) : Int) = 0 by have := hf.2; unfold bel at this; omega)]
      simp only [ints_length, if_pos (show F.length < 17592186044416 by omega), or_set _ _ h62 (show x ≤ 62 by omega), ← setN_snoc]
      have e : ints F ++ [(x : Int)] = ints (F ++ [x]) := by simp [ints]
      rw [e]
      exact next (F ++ [x]) ⟨g.snoc hi hx hfx hl, by simp⟩
  · rintro F ⟨g, hF⟩
    refine Tot.step (fun _ => rfl) ?_
    simp only [impl_FirstExtension.l0, ints_length, hF, if_neg (show ¬ (n : Int) < (n : Int) by omega)]
    exact Tot.now ⟨rfl, F, rfl, g, hF⟩
theorem l1Has_ev (l : List Nat) (x : Nat) (hl : l.length ≤ 140737488355328) : Ev (fun k => spec_l1Has.f k (ints l) (x : Int)) (decide (x ∈ l)) := by
  unfold spec_l1Has.f
  rw [ints_length]
  have nx : ∀ i, i < l.length → ∀ k, spec_l1Has.l0 (k + 1) (x : Int) (ints l) (l.length : Int) (i : Int) = if l.getD i 0 = x then some true else spec_l1Has.l0 k (x : Int) (ints l) (l.length : Int) ((i + 1 : Nat) : Int) := by
    intro i hi k
    simp only [spec_l1Has.l0, if_pos (show (i : Int) < (l.length : Int) by omega), if_pos (show (0 : Int) ≤ (i : Int) by omega), ints_length, ints_rd l i hi, next64 i l.length hi hl]
    by_cases h : l.getD i 0 = x
    · rw [if_pos h, if_pos (by omega)]
    · rw [if_neg h, if_neg (by omega)]
  by_cases hx : x ∈ l
  · obtain ⟨i, hi, e⟩ := List.getElem_of_mem hx
    obtain ⟨j, hj, h1, h2⟩ := least_false (n := l.length) (p := fun i => !decide (l.getD i 0 = x)) ⟨i, hi, by simp [hi, e]⟩
    rw [decide_eq_true hx]
    refine Ev.up (fun i k => spec_l1Has.l0 k (x : Int) (ints l) (l.length : Int) (i : Int)) j ?_ ?_
    · intro i hi next
      refine Ev.step (fun k => by rw [nx i (by omega) k, if_neg (by simpa using h2 i hi)]) next
    · exact Ev.step (fun k => by rw [nx j hj k, if_pos (by simpa using h1)]) (Ev.now _)
  · rw [decide_eq_false hx]
    refine Ev.up (fun i k => spec_l1Has.l0 k (x : Int) (ints l) (l.length : Int) (i : Int)) l.length ?_ ?_
    · intro i hi next
      refine Ev.step (fun k => by rw [nx i hi k, if_neg (fun e => hx (by rw [← e]; exact getD_mem l i hi))]) next
    · refine Ev.step (fun _ => rfl) ?_
      simp only [spec_l1Has.l0, if_neg (show ¬ (l.length : Int) < (l.length : Int) by omega)]
      exact Ev.now _
theorem orFirst_tot {n : Nat} {l : List Int} (o : Ord n l) : Tot (fun k => spec_orFirst.f k (n : Int) l) (fun r => ∃ F, r = ints F ∧ Greedy n l F ∧ F.length = n) := by
  have hn := o.le
  have hm := mir_rel o.toRel
  unfold spec_orFirst.f
  refine Tot.up (fun i (F : List Nat) k => spec_orFirst.l0 k (ints F) (n : Int) l) n (fun i F => Greedy n l F ∧ F.length = i) ?_ ?_ 0 (Nat.zero_le _) [] ⟨Greedy.nil n l, rfl⟩
  · rintro i F hi ⟨g, hF⟩ next
    subst hF
    obtain ⟨x, hx, hf, hl⟩ := free_least o F hi
    have hfx := hf
    have h62 := setN_62 F n (by omega) g.lt
    refine Tot.step (fun _ => rfl) ?_
    simp only [spec_orFirst.l0, ints_length, if_pos (show (F.length : Int) < (n : Int) by omega)]
    refine Tot.up (fun j (_ : Unit) k => spec_orFirst.l1 k (ints F) (j : Int) (n : Int) l) x (fun _ _ => True) ?_ ?_ 0 (Nat.zero_le _) () trivial
    · intro j _ hj _ next
      refine Tot.step (fun _ => rfl) ?_
      simp only [spec_orFirst.l1]
      refine Tot.ebind (l1Has_ev F j (by omega)) ?_
      have hfj := hl j hj
      unfold free at hfj
      simp only [next64 j x hj (by omega)]
      by_cases hjF : j ∈ F
      · simp only [hjF, decide_true, if_true]
        exact next () trivial
      · simp only [hjF, decide_false, Bool.not_false, Bool.true_and, beq_eq_false_iff_ne] at hfj
        simp only [hjF, decide_false, Bool.false_eq_true, if_false]
        refine Tot.ebind (orBelow_ev o.toRel _ j (by omega)) ?_
        rw [← bel_set l j (by omega)]
        refine Tot.ebind (orSet_ev F n (by omega) g.lt (by omega)) ?_
        rw [andNot_i64 (bel n l j) _ (hm.row_62 _) h62]
        simp only [if_neg (show ¬ ((diff (bel n l j) (setN F) : Nat) : Int) = 0 by omega)]
        exact next () trivial
    · intro _ _
      refine Tot.step (fun _ => rfl) ?_
      unfold free at hf
      simp only [Bool.and_eq_true, Bool.not_eq_true', decide_eq_false_iff_not, beq_iff_eq] at hf
      simp only [spec_orFirst.l1]
      refine Tot.ebind (l1Has_ev F x (by omega)) ?_
      simp only [hf.1, decide_false, Bool.false_eq_true, if_false]
      refine Tot.ebind (orBelow_ev o.toRel _ x (by omega)) ?_
      rw [← bel_set l x hx]
      refine Tot.ebind (orSet_ev F n (by omega) g.lt (by omega)) ?_
      rw [andNot_i64 (bel n l x) _ (hm.row_62 _) h62]
      simp only [if_pos (show ((diff (bel n l x) (setN F) : Nat) : Int) = 0 by have := hf.2; omega)]
      simp only [ints_length, if_pos (show F.length < 17592186044416 by omega)]
      have e : ints F ++ [(x : Int)] = ints (F ++ [x]) := by simp [ints]
      rw [e]
      exact next (F ++ [x]) ⟨g.snoc hi hx hfx hl, by simp⟩
  · rintro F ⟨g, hF⟩
    refine Tot.step (fun _ => rfl) ?_
    simp only [spec_orFirst.l0, ints_length, hF, if_neg (show ¬ (n : Int) < (n : Int) by omega)]
    exact Tot.now ⟨F, rfl, g, hF⟩
theorem orUpTo_tot (t : Int) (h1 : t ≤ 11) : Tot (fun k => spec_orUpTo.f k t) (fun r => r.length ≤ 11) := by
  unfold spec_orUpTo.f
  by_cases h0 : 0 ≤ t
  · obtain ⟨m, rfl⟩ := Int.eq_ofNat_of_zero_le h0
    refine Tot.up (fun i (s : List Int) k => spec_orUpTo.l0 k (m : Int) s (i : Int)) m (fun i s => s.length = i) ?_ ?_ 0 (Nat.zero_le _) [] rfl
    · intro i s hi hs next
      refine Tot.step (fun _ => rfl) ?_
      simp only [spec_orUpTo.l0, if_pos (show (i : Int) < (m : Int) by omega), if_pos (show s.length < 17592186044416 by omega), next64 i m hi (by omega)]
      exact next _ (by simp [hs])
    · intro s hs
      refine Tot.step (fun _ => rfl) ?_
      simp only [spec_orUpTo.l0, if_neg (show ¬ (m : Int) < (m : Int) by omega)]
      exact Tot.now (by omega)
  · refine Tot.step (fun _ => rfl) ?_
    simp only [spec_orUpTo.l0, if_neg (show ¬ (0 : Int) < t by omega)]
    exact Tot.now (by simp)
theorem names_tot {l : List Int} (hb : By l) (p h a : Int) (hp : 0 ≤ p) (hp2 : p ≤ 999000) : Tot (fun k => spec_l1Cur_names.f k l p h a) (fun r => r.1.length ≤ 12 ∧ p ≤ r.2.1 ∧ r.2.1 ≤ p + 40) := by
  unfold spec_l1Cur_names.f
  refine Tot.obind (Q := fun t => t ≤ 11) ?_ ?_
  · unfold spec_l1Least.f
    by_cases h : a < 11
    · rw [if_pos h]; exact ⟨_, rfl, by omega⟩
    · rw [if_neg h]; exact ⟨_, rfl, by omega⟩
  intro t ht
  refine Tot.bind (orUpTo_tot t ht) ?_
  intro z hz
  refine Tot.up (fun i (s : List Int × Int × Int) k => spec_l1Cur_names.l0 k s.1 (z.length : Int) (i : Int) l s.2.1 s.2.2) z.length (fun i s => s.1.length = z.length ∧ p ≤ s.2.1 ∧ s.2.1 ≤ p + 2 * (i : Int)) ?_ ?_ 0 (Nat.zero_le _) (z, p, h) ⟨rfl, by simp only; omega, by simp only; omega⟩
  · rintro i ⟨s, p1, h1⟩ hi ⟨s1, s2, s3⟩ next
    simp only at s1 s2 s3
    refine Tot.step (fun _ => rfl) ?_
    simp only [spec_l1Cur_names.l0, if_pos (show (i : Int) < (z.length : Int) by omega), s1, if_pos (show (0 : Int) ≤ (i : Int) by omega), next64 i z.length hi (by omega)]
    refine Tot.obind (pick_ok hb p1 h1 _ (by omega) (by omega)) ?_
    rintro ⟨v, p2, h2⟩ ⟨v0, v1, v2, v3⟩
    simp only at v0 v1 v2 v3
    simp only [if_pos v0, if_pos (show v < (z.length : Int) by omega)]
    exact next (_, _, _) ⟨by simpa using s1, by simp only; omega, by simp only; omega⟩
  · rintro ⟨s, p1, h1⟩ ⟨s1, s2, s3⟩
    simp only at s1 s2 s3
    refine Tot.step (fun _ => rfl) ?_
    simp only [spec_l1Cur_names.l0, if_neg (show ¬ (z.length : Int) < (z.length : Int) by omega)]
    refine Tot.obind (one_ok hb p1 h1 10 (by omega) (by omega)) ?_
    rintro ⟨v, p2, h2⟩ ⟨v2, v3⟩
    simp only at v2 v3
    refine Tot.ite (fun _ => ?_) (fun _ => Tot.now ⟨by simp only; omega, by simp only; omega, by simp only; omega⟩)
    refine Tot.obind (pick_ok hb p2 h2 3 (by omega) (by omega)) ?_
    rintro ⟨v', p3, h3⟩ ⟨u0, u1, u2, u3⟩
    simp only at u0 u1 u2 u3
    simp only [if_pos (show s.length < 17592186044416 by omega)]
    exact Tot.now ⟨by simp only [List.length_append, List.length_singleton]; omega, by simp only; omega, by simp only; omega⟩
theorem DrawIsExtension_tot {l : List Int} (hb : By l) : Tot (fun k => spec_DrawIsExtension.f k l) (fun r => r.2.1.length ≤ 10 ∧ r.2.2.length ≤ 12) := by
  unfold spec_DrawIsExtension.f
  refine Tot.bind (anyOrder_tot hb 0 0 6 (by omega) (by omega) (by omega) (by omega)) ?_
  rintro ⟨n, z, p, h⟩ ⟨hz, p0, p1⟩
  simp only at hz p0 p1
  refine Tot.ebind (orGood_ev n z (by omega)) ?_
  have no : ∀ p h, 0 ≤ p → p ≤ 999000 → Tot (fun k => spec_DrawIsExtension.j0 k false l p h n z) (fun r => r.2.1.length ≤ 10 ∧ r.2.2.length ≤ 12) := by
    intro p h p0 p1
    refine Tot.step (fun _ => rfl) ?_
    simp only [spec_DrawIsExtension.j0, Bool.false_eq_true, if_false]
    refine Tot.obind (Q := fun _ => True) ?_ ?_
    · unfold spec_l1Most.f
      split
      · exact ⟨_, rfl, trivial⟩
      · exact ⟨_, rfl, trivial⟩
    intro t _
    refine Tot.bind (names_tot hb p h t p0 p1) ?_
    rintro ⟨z', p', h'⟩ ⟨hz', _, _⟩
    exact Tot.now ⟨hz, hz'⟩
  cases ho : isOrd n z with
  | false => simp only [Bool.false_eq_true, if_false]; exact no _ _ (by omega) (by omega)
  | true =>
    obtain ⟨m, rfl, o⟩ := isOrd_iff.1 ho
    simp only [if_true]
    refine Tot.obind (one_ok hb p h 2 (by omega) (by omega)) ?_
    rintro ⟨b, p2, h2⟩ ⟨v2, v3⟩
    simp only at v2 v3
    simp only []
    cases b with
    | false => exact no _ _ (by omega) (by omega)
    | true =>
      refine Tot.step (fun _ => rfl) ?_
      simp only [spec_DrawIsExtension.j0, if_true]
      refine Tot.bind (orFirst_tot o) ?_
      rintro r ⟨F, rfl, g, hF⟩
      exact Tot.now ⟨hz, by simp only [ints_length]; have := o.le; omega⟩
theorem name_parts {n : Nat} {z : List Int} (h : isName n z = true) : ∃ l, z = ints l ∧ (∀ x ∈ l, x < n) ∧ l.length = n ∧ ∀ x, x < n → x ∈ l := by
  unfold isName at h
  rw [Bool.and_eq_true, Bool.and_eq_true] at h
  obtain ⟨h1, h2, h3⟩ := h
  obtain ⟨l, rfl, hl⟩ := allIn_nat h1
  refine ⟨l, rfl, hl, by simpa [ints_length] using h2, fun x hx => ?_⟩
  rw [ints_nat, beq_iff_eq] at h3
  have := testBit_setN l x
  rw [h3, Nat.testBit_two_pow_sub_one, decide_eq_true hx] at this
  exact of_decide_eq_true this.symm
theorem name_distinct {n : Nat} {l : List Nat} (hl : l.length = n) (h : ∀ x, x < n → x ∈ l) (i : Nat) (hi : i < l.length) : l.getD i 0 ∉ l.take i := by
  intro hm
  have e : l = l.take i ++ l.getD i 0 :: l.drop (i + 1) := by
    conv => lhs; rw [← List.take_append_drop i l, List.drop_eq_getElem_cons hi]
    simp [hi]
  have := length_all n (l.take i ++ l.drop (i + 1)) (fun x hx => by
    have hx := h x hx
    rw [e, List.mem_append, List.mem_cons] at hx
    rw [List.mem_append]
    rcases hx with hx | rfl | hx
    · exact .inl hx
    · exact .inl hm
    · exact .inr hx)
  rw [List.length_append, List.length_take, List.length_drop] at this
  omega
theorem pLess_ev (z F : List Nat) (hl : z.length = F.length) (hb : z.length ≤ 140737488355328) (h : ∀ i, i < z.length → z.take i = F.take i → F.getD i 0 ≤ z.getD i 0) : Ev (fun k => laws_pLess.f k (ints z) (ints F)) false := by
  unfold laws_pLess.f
  have nx : ∀ i, i < z.length → ∀ k, laws_pLess.l0 (k + 1 + 1) (ints z) (ints F) (i : Int) = if z.getD i 0 = F.getD i 0 then laws_pLess.l0 k (ints z) (ints F) ((i + 1 : Nat) : Int) else some (decide (z.getD i 0 < F.getD i 0)) := by
    intro i hi k
    simp only [laws_pLess.l0, laws_pLess.j1, ints_length, if_pos (show (i : Int) < (z.length : Int) by omega), decide_eq_true (show (i : Int) < (F.length : Int) by omega), if_true, if_pos (show (0 : Int) ≤ (i : Int) by omega), if_pos (show (i : Int) < (F.length : Int) by omega), ints_rd z i hi, ints_rd F i (by omega), next64 i z.length hi hb]
    by_cases e : z.getD i 0 = F.getD i 0
    · rw [if_pos e, if_pos (by omega)]
    · rw [if_neg e, if_neg (by omega)]
      congr 1
      rw [Bool.eq_iff_iff, decide_eq_true_iff, decide_eq_true_iff]
      omega
  have two : ∀ {α : Type} {g f : Nat → Option α} {r : α}, (∀ k, g (k + 1 + 1) = f k) → Ev f r → Ev g r := by
    intro α g f r h ⟨K, hK⟩
    refine ⟨K + 2, fun k hk => ?_⟩
    obtain ⟨d, rfl⟩ : ∃ d, k = d + 1 + 1 := ⟨k - 2, by omega⟩
    rw [h]
    exact hK d (by omega)
  have same : ∀ i, (∀ j, j < i → z.getD j 0 = F.getD j 0) → i ≤ z.length → z.take i = F.take i := by
    intro i
    induction i with
    | zero => intros; rfl
    | succ i ih =>
      intro h hi
      rw [take_next z i (by omega), take_next F i (by omega), ih (fun j hj => h j (by omega)) (by omega), h i (by omega)]
  by_cases hd : ∃ i, i < z.length ∧ (decide (z.getD i 0 = F.getD i 0)) = false
  · obtain ⟨j, hj, h1, h2⟩ := least_false hd
    refine Ev.up (fun i k => laws_pLess.l0 k (ints z) (ints F) (i : Int)) j ?_ ?_
    · intro i hi next
      refine two (fun k => by rw [nx i (by omega) k, if_pos (of_decide_eq_true (h2 i hi))]) next
    · refine two (fun k => by rw [nx j hj k, if_neg (of_decide_eq_false h1)]) (Ev.to (Ev.now _) ?_)
      have := h j hj (same j (fun i hi => of_decide_eq_true (h2 i hi)) (by omega))
      rw [decide_eq_false_iff_not]
      omega
  · refine Ev.up (fun i k => laws_pLess.l0 k (ints z) (ints F) (i : Int)) z.length ?_ ?_
    · intro i hi next
      refine two (fun k => by rw [nx i hi k, if_pos (Classical.byContradiction fun hc => hd ⟨i, hi, decide_eq_false hc⟩)]) next
    · refine two (f := fun _ => some false) (fun k => ?_) (Ev.now _)
      simp only [laws_pLess.l0, laws_pLess.j1, ints_length, Bool.false_eq_true, if_false, hl, if_neg (show ¬ (F.length : Int) < (F.length : Int) by omega), decide_eq_false (show ¬ (F.length : Int) < (F.length : Int) by omega)]
end Go.Proofs.YtjdkcafpgebjfaaDoor.M
namespace Go.Proofs.YtjdkcafpgebjfaaDoor.Pure
open Go.RowKit Go.Proofs.YtjdkcafpgebjfaaDoorW.PrintMore Go.Proofs.YtjdkcafpgebjfaaDoorW.PrintLast Go.Proofs.YtjdkcafpgebjfaaDoorW.PrintWords Go.Proofs.YtjdkcafpgebjfaaDoor.P Go.Proofs.YtjdkcafpgebjfaaDoor.M
set_option maxRecDepth 4000
theorem FnExtensionsAccepted : P.laws_FnExtensionsAccepted.Pure := by
  intro l0 l1 _ hl0 hb _ hl1 _
  have hB := by_wf hb
  obtain ⟨⟨n, l, z⟩, hd, hlen, hzl⟩ := DrawIsExtension_tot hB
  simp only at hlen hzl
  refine Ev.rounds (g := fun k => laws_FnExtensionsAccepted.f k l0 l1) ?_
  unfold laws_FnExtensionsAccepted.f
  obtain ⟨b, hbig⟩ : ∃ b, laws_big.f l0 l1 = some b := by
    unfold laws_big.f
    split
    · exact ⟨_, rfl⟩
    · exact ⟨_, rfl⟩
  rw [hbig]
  simp only [Option.bind_some]
  cases b with
  | true => simp only [if_true]; exact Ev.now _
  | false =>
  simp only [Bool.false_eq_true, if_false]
  refine Ev.bind hd ?_
  refine Ev.bind (IsExtension_ev n l z (by omega) (by omega)) ?_
  refine Ev.bind (sIsExtension_ev n l z (by omega) (by omega)) ?_
  simp only [bne_self_eq_false, Bool.false_eq_true, if_false]
  refine Ev.step (fun _ => rfl) ?_
  simp only [laws_FnExtensionsAccepted.j0, Bool.false_eq_true, if_false]
  cases he : (isOrd n l && (isName n.toNat z && isExt n.toNat l (z.map Int.toNat))) with
  | false => simp only [Bool.false_eq_true, if_false]; exact Ev.now _
  | true =>
  rw [Bool.and_eq_true, Bool.and_eq_true] at he
  obtain ⟨ho, hN, hE⟩ := he
  obtain ⟨n, rfl, o⟩ := isOrd_iff.1 ho
  have hn := o.le
  rw [Int.toNat_natCast] at hN hE
  obtain ⟨z, rfl, hz, hzn, hall⟩ := name_parts hN
  rw [ints_nat] at hE
  simp only [if_true]
  obtain ⟨⟨F', b⟩, hf, hb1, F, hb2, g, hF⟩ := FirstExtension_tot o
  simp only at hb1 hb2
  subst hb1 hb2
  refine Ev.bind hf ?_
  have hdif : ∀ i, i < z.length → diff (bel n l (z.getD i 0)) (setN (z.take i)) = 0 := fun i hi => beq_iff_eq.1 (allB_iff.1 hE i hi)
  have hdist : ∀ i, i < z.length → z.getD i 0 ∉ z.take i := fun i hi => name_distinct hzn hall i hi
  simp only [if_true]
  refine Ev.bind (pLess_ev z F (by omega) (by omega) ?_) ?_
  · intro i hi e
    refine g.least i (by omega) _ (hz _ (getD_mem z i hi)) ?_
    unfold free
    rw [← e, hdif i hi, decide_eq_false (hdist i hi)]
    rfl
  simp only [Bool.false_eq_true, if_false, ints_length, show ((z.length : Int) != (n : Int)) = false by simp [hzn]]
  refine Ev.step (fun _ => rfl) ?_
  simp only [laws_FnExtensionsAccepted.j1, Bool.false_eq_true, if_false, ints_length]
  refine Ev.up (fun i k => laws_FnExtensionsAccepted.l0 k (ints z) (ints z) (z.length : Int) (i : Int) (n : Int) l) z.length ?_ ?_
  · intro i hi next
    have hx := hz _ (getD_mem z i hi)
    refine Ev.step (fun _ => rfl) ?_
    simp only [laws_FnExtensionsAccepted.l0, if_pos (show (i : Int) < (z.length : Int) by omega), if_pos (show (0 : Int) ≤ (i : Int) by omega), ints_length, if_pos (show (i : Int) ≤ (z.length : Int) by omega), Option.bind_some, Int.toNat_natCast, ints_take, ints_rd z i hi]
    refine Ev.up (fun j k => laws_FnExtensionsAccepted.l1 k (ints z) ((z.getD i 0 : Nat) : Int) (ints z) (z.length : Int) (i : Int) (ints (z.take i)) ((z.take i).length : Int) (j : Int) (n : Int) l) (z.take i).length ?_ ?_
    · intro j hj next
      have hlt : (z.take i).length = i := by rw [List.length_take]; omega
      have hy := getD_mem (z.take i) j hj
      have hyn := hz _ (List.mem_of_mem_take hy)
      have hne : z.getD i 0 ≠ (z.take i).getD j 0 := fun e => hdist i hi (by rw [e]; exact hy)
      have hB : B l (z.getD i 0) ((z.take i).getD j 0) = false := by
        cases hc : B l (z.getD i 0) ((z.take i).getD j 0) with
        | false => rfl
        | true =>
          -- the earlier one stands at place j; what is below it stands before it
          have hjz : j < z.length := by omega
          have e2 : (z.take i).getD j 0 = z.getD j 0 := by
            have hji : j < i := by omega
            simp [hji, hjz]
          rw [e2] at hc hne
          have h1 := (diff_zero _ _).1 (hdif j hjz) (z.getD i 0) (by rw [testBit_bel o.toRel]; exact hc)
          rw [testBit_setN, decide_eq_true_iff] at h1
          have : z.getD i 0 ∈ z.take i := by
            have e3 : z.take j = (z.take i).take j := by rw [List.take_take, Nat.min_eq_left (by omega)]
            rw [e3] at h1
            exact List.mem_of_mem_take h1
          exact absurd this (hdist i hi)
      refine Ev.step (fun _ => rfl) ?_
      simp only [laws_FnExtensionsAccepted.l1, if_pos (show (j : Int) < ((z.take i).length : Int) by omega), if_pos (show (0 : Int) ≤ (j : Int) by omega), ints_length, ints_rd (z.take i) j hj, if_neg (show ¬ ((z.getD i 0 : Nat) : Int) = (((z.take i).getD j 0 : Nat) : Int) by omega), if_pos (show (0 : Int) ≤ ((z.getD i 0 : Nat) : Int) by omega), o.len, if_pos (show ((z.getD i 0 : Nat) : Int) < (n : Int) by omega), o.toRel.rd,
        pIn_eq _ _ (show (z.take i).getD j 0 ≤ 64 by omega), Option.bind_some, show (row l (z.getD i 0)).testBit ((z.take i).getD j 0) = B l (z.getD i 0) ((z.take i).getD j 0) from rfl, hB, Bool.false_eq_true, if_false, next64 j _ hj (by omega)]
      exact next
    · refine Ev.step (fun _ => rfl) ?_
      simp only [laws_FnExtensionsAccepted.l1, if_neg (show ¬ ((z.take i).length : Int) < ((z.take i).length : Int) by omega), next64 i z.length hi (by omega)]
      exact next
  · refine Ev.step (fun _ => rfl) ?_
    simp only [laws_FnExtensionsAccepted.l0, if_neg (show ¬ (z.length : Int) < (z.length : Int) by omega)]
    exact Ev.now _
end Go.Proofs.YtjdkcafpgebjfaaDoor.Pure
namespace Go.Proofs.YtjdkcafpgebjfaaDoorW.PrintWords
open Go.ChangeShapes Go.WideShapes
theorem sized_ints {H : Type} {enc : TypeId × Value → H} {P : Program} {W : World} {base : Nat} {spare : Nat → Bool} {held : Bool} {t e : TypeId} {k : IntKind} {a : Option Addr} {len cap : Nat} {d : DataW H} {ps : List MemPlace} {ts : List TypeId} {ds : List (DataW H)} {j : Nat}
    (hsz : (DataW.weightsEach P ts ds).all (· ≤ reachBytes) = true) (ht : ts[j]? = some t) (hd : ds[j]? = some d) (hu : P.underlying t = some (.slice e)) (he : P.underlying e = some (.int k)) (hc : P.cellsOf e = 1) {B : Nat} (hB : P.bytesOf e = B)
    (h : DataW.Trod enc P W base spare held t (.slice a len cap) d ps) : len * B ≤ 140737488351232 := by
  obtain ⟨fuel, hf⟩ := h
  rcases open_ints hu he hc hf with ⟨hcs, _⟩ | ⟨x, l, c, zs, hcs, _, hl, _, hz, hx, _, _⟩
  · simp [Value.cells] at hcs
    obtain ⟨rfl, rfl, rfl⟩ := hcs
    simp
  · simp [Value.cells] at hcs
    obtain ⟨rfl, rfl, rfl⟩ := hcs
    obtain ⟨hx, _⟩ := Prod.mk.inj hx
    subst hx
    have z := sized_slice hsz ht hd hu
    rw [hB] at z
    have hl2 : len ≤ zs.length := by
      rw [hz]
      split
      · exact hl
      · exact Nat.le_refl _
    have h1 : (lits (H := H) k (zs.take len)).length + (lits (H := H) k (zs.drop len)).length = zs.length := by
      simp [lits]
      omega
    rw [h1] at z
    exact Nat.le_trans (Nat.mul_le_mul_right _ hl2) z
end Go.Proofs.YtjdkcafpgebjfaaDoorW.PrintWords
namespace Go.Proofs.YtjdkcafpgebjfaaDoor.fnExtensionsAccepted
open Go.ChangeShapes Go.WideShapes Go.ChangeAt Go.RowKit
open Go.ChangeMaps (open_string shut_string)
open Go.Proofs.YtjdkcafpgebjfaaDoorW
set_option linter.unusedVariables false
theorem own : ownKnob Tryd.prog.godebug = none := by kernel_rfl
theorem laidOut : laidOutB Tryd.prog = true := by kernel_rfl
def IsRow (k : IntKind) (w : World) (a : Option Addr) (len cap : Nat) (zs : List Int) : Prop :=
  (a = none ∧ len = 0 ∧ cap = 0 ∧ zs = []) ∨
  ∃ x, a = some x ∧ len ≤ cap ∧ cap ≤ maxLen ∧ zs.length = cap ∧ (∀ i, i < zs.length → w.cell? (x.add i) = some (.int k (zs.getD i 0))) ∧ ∀ n ∈ zs, (Lit.int k n).wf = true
theorem gT : Tryd.prog.globalNamed "math/bits.deBruijn64tab" = some 1 := by kernel_rfl
theorem tT : (Tryd.prog.globals[1]?).map (·.type) = some 124 := by kernel_rfl
theorem cT : Tryd.prog.cellsOf 124 = 64 := by kernel_rfl
theorem cE : Tryd.prog.cellsOf 5 = 1 := by kernel_rfl
def tab64 : List Int := Lib.deBruijn64tab.map fun (z : Nat) => (z : Int)
theorem tab64_at : ∀ j, j < 64 → tab64.getD j 0 = ((Lib.deBruijn64tab.getD j 0 : Nat) : Int) := by decide +kernel
theorem table {W : World} (h : laidMetH Tryd.prog Rows.fnExtensionsAcceptedRow.laid W) : P.TabOK W := by
  rw [MakeChecks.laidMetH_plain _ _ _ (by kernel_rfl)] at h
  have h1 : laidMet Tryd.prog [("math/bits.deBruijn32tab", Rows.laid_math_bits_deBruijn32tab), ("math/bits.deBruijn64tab", Lib.tabData .u8 tab64)] W := h
  have h0 := laidMet.tail (h1)
  have ht := Lib.tabIs_of_head gT tT Tryd.underlying124 Tryd.underlying5 cE cT h0
  intro j hj
  rw [ht.cell gT j (by exact hj), tab64_at j hj]
theorem door_met (os : Os) (args : Array Value) : laidMetH Tryd.prog Rows.fnExtensionsAcceptedRow.laid ((World.doorLaid Tryd.prog 400 os).forCall (fun _ _ => 0) ⟨#[], args, []⟩).memory :=
  laidMetH_of_parts3 (fuel := 8) (laidMet_of_run' 8 (by kernel_rfl) (by kernel_rfl)) (by kernel_rfl) (by kernel_rfl)
set_option maxRecDepth 100000 in
theorem lifted (os : Os) (started : os.Started) (H : Type) (enc : TypeId × Value → H) :
    ReturnsInHanded {} Tryd.checked os 9 .any (fun w args => (Rows.fnExtensionsAcceptedSpec.pre enc Tryd.prog Tryd.f9 [] false w args ∧ laidMetH Tryd.prog Rows.fnExtensionsAcceptedRow.laid w) ∧ sizedMet enc Tryd.prog Tryd.f9 (OpenSpec.ofChange Rows.fnExtensionsAcceptedSpec) false w args)
      (Rows.fnExtensionsAcceptedSpec.post enc Tryd.prog Tryd.f9 false true false false) := by
  refine returnsInHanded_of_change_and (C := Tryd.checked) (X := fun w _ => laidMetH Tryd.prog Rows.fnExtensionsAcceptedRow.laid w) (fun _ _ _ hh h => h.of_heap hh) own started (by kernel_rfl) Tryd.func9
    (ChangeSpec.witness_shaped (enc := enc) (C := Tryd.checked) (os := os) (X := fun w _ => laidMetH Tryd.prog Rows.fnExtensionsAcceptedRow.laid w) false (World.doorLaid Tryd.prog 400 os) #[.slice none 0 0, .slice none 0 0] 8 rfl (World.shaped_of_RefB (by kernel_rfl) (by kernel_rfl)) (by kernel_rfl) (by kernel_rfl) (by kernel_rfl) (door_met os _)) ?_
  intro W base args ds gs before hval0 hW hcnd hsz0 hL _
  have hsz : (DataW.weightsEach Tryd.prog (Tryd.f9.params.toList ++ Rows.fnExtensionsAcceptedSpec.plain.varTypes Tryd.prog) (ds ++ gs)).all (· ≤ reachBytes) = true := hsz0
  have hval : ∀ (j : Nat) t v, Tryd.f9.params[j]? = some t → args[j]? = some v → Value.okWide Tryd.prog W .any base t v := hval0
  have hW' := hW
  obtain ⟨p, q, hA0, hV, rfl, hfz, hnd⟩ := hW
  have hA : DataW.TrodAll enc Tryd.prog W 0 (fun _ => true) true Tryd.f9.params.toList args.toList ds p := hA0
  rw [Tryd.params9] at hA hval hsz
  obtain ⟨v0, vs0, d0, ds0, p0, q0, hargs, rfl, rfl, h0, r0⟩ := trodAll_cons hA
  obtain ⟨v1, vs1, d1, ds1, p1, q1, rfl, rfl, rfl, h1, r1⟩ := trodAll_cons r0
  obtain ⟨rfl, rfl, rfl⟩ := trodAll_nil r1
  obtain rfl : args = #[v0, v1] := by cases args; simp_all
  obtain ⟨rfl, rfl⟩ := trodVars_none hV
  obtain ⟨a0, len0, cap0, rfl⟩ := okWide_slice Tryd.underlying33 (hval 0 33 v0 rfl rfl)
  have k0 := h0
  have lt0 : ∀ x ∈ p0, x.block < W.heap.size := by obtain ⟨m, hm⟩ := k0; exact DataW.trod_lt m _ _ _ hm
  obtain ⟨z0, w0⟩ : ∃ zs, IsRow .u8 W a0 len0 cap0 zs := by
    obtain ⟨fuel, hf⟩ := h0
    rcases open_ints Tryd.underlying33 Tryd.underlying5 (by kernel_rfl) hf with ⟨hcs, _⟩ | ⟨x, l, c, zs, hcs, _, hl, hm, hz, _, hcell, hwz⟩
    · simp [Value.cells] at hcs
      obtain ⟨rfl, rfl, rfl⟩ := hcs
      exact ⟨[], .inl ⟨rfl, rfl, rfl, rfl⟩⟩
    · simp [Value.cells] at hcs
      obtain ⟨rfl, rfl, rfl⟩ := hcs
      exact ⟨zs, .inr ⟨_, rfl, hl, hm, by simpa using hz, hcell, hwz⟩⟩
  have y0 : len0 * 1 ≤ 140737488351232 := PrintWords.sized_ints hsz (j := 0) (t := 33) rfl rfl Tryd.underlying33 Tryd.underlying5 (by kernel_rfl) (by kernel_rfl) h0
  obtain ⟨a1, len1, cap1, rfl⟩ := okWide_slice Tryd.underlying33 (hval 1 33 v1 rfl rfl)
  have k1 := h1
  have lt1 : ∀ x ∈ p1, x.block < W.heap.size := by obtain ⟨m, hm⟩ := k1; exact DataW.trod_lt m _ _ _ hm
  obtain ⟨z1, w1⟩ : ∃ zs, IsRow .u8 W a1 len1 cap1 zs := by
    obtain ⟨fuel, hf⟩ := h1
    rcases open_ints Tryd.underlying33 Tryd.underlying5 (by kernel_rfl) hf with ⟨hcs, _⟩ | ⟨x, l, c, zs, hcs, _, hl, hm, hz, _, hcell, hwz⟩
    · simp [Value.cells] at hcs
      obtain ⟨rfl, rfl, rfl⟩ := hcs
      exact ⟨[], .inl ⟨rfl, rfl, rfl, rfl⟩⟩
    · simp [Value.cells] at hcs
      obtain ⟨rfl, rfl, rfl⟩ := hcs
      exact ⟨zs, .inr ⟨_, rfl, hl, hm, by simpa using hz, hcell, hwz⟩⟩
  have y1 : len1 * 1 ≤ 140737488351232 := PrintWords.sized_ints hsz (j := 1) (t := 33) rfl rfl Tryd.underlying33 Tryd.underlying5 (by kernel_rfl) (by kernel_rfl) h1
  clear hA0 hval0 hsz0 hsz
  refine (P.laws_FnExtensionsAccepted.walk Pure.FnExtensionsAccepted a0 len0 cap0 z0 a1 len1 cap1 z1 W w0 y0 w1 y1 (table hL)).mono fun e W' ⟨he, bel⟩ => ?_
  subst he
  exact ⟨_, rfl, _, _, _, [], _, [], hW', trodAll_mk1 (shut_bool Tryd.underlying4 _), (trodAll_cons_mk (Below.trod laidOut (by kernel_rfl) (of_decide_eq_true (by kernel_rfl)) k0 bel lt0) (trodAll_cons_mk (Below.trod laidOut (by kernel_rfl) (of_decide_eq_true (by kernel_rfl)) k1 bel lt1) trodAll_mk0)), rfl, bel.frame _, fun h => by cases h⟩
theorem over : Rows.fnExtensionsAcceptedRow.holds Tryd.pinned (OpenSpec.ofChange Rows.fnExtensionsAcceptedSpec) :=
  OpenClaim.holds_of_wide 9 Tryd.f9 rfl rfl rfl rfl rfl rfl rfl ⟨rfl, rfl, rfl, rfl, rfl⟩ rfl rfl rfl rfl rfl (by kernel_rfl) Tryd.func9 (by kernel_rfl)
    (of_decide_eq_true (by kernel_rfl)) (by unfold Func.isWrapper; first | (rw [if_pos (by decide +kernel)]; kernel_rfl) | (rw [if_neg (by decide +kernel)]; exact ⟨rfl, rfl⟩))
    (fun os started H enc _ => lifted os started H enc)
theorem proved : Rows.FnExtensionsAcceptedCardSaid :=
  Claim7.holds_tied_plain_at .later [] [.data, .data] true (true, "5d58891a245336e29b7e5b518917121b9d138b4959fb48b1af33e9c76743e3aa") false
    over (fun _ h => by cases h) (by kernel_rfl) (fun _ h => by cases h) fnExtensionsAccepted_row_tie rfl ⟨rfl, rfl⟩ (by kernel_rfl) rfl
    (fun f fn hf hfn => by
      obtain rfl : f = 9 := Option.some.inj ((show Tryd.prog.funcNamed "loop.example/g01106/laws.FnExtensionsAccepted" = some 9 by kernel_rfl).symm.trans hf) |>.symm
      obtain rfl : fn = Tryd.f9 := (Option.some.inj (Tryd.func9.symm.trans hfn)).symm
      exact ⟨by kernel_rfl, fun j t ht => by
        rw [Tryd.params9] at ht
        have hm : t ∈ [33] := by have hq := Array.mem_of_getElem? ht; simp at hq; simp [hq]
        have hall : ([33].all fun u => !Tryd.prog.wantsStandIn u) = true := by kernel_rfl
        exact (show Tryd.prog.wantsStandIn t = false by simpa using List.all_eq_true.1 hall t hm)⟩)
    (by kernel_rfl)
end Go.Proofs.YtjdkcafpgebjfaaDoor.fnExtensionsAccepted
namespace Go.Proofs.YtjdkcafpgebjfaaDoor
theorem fnExtensionsAccepted_holds : Rows.FnExtensionsAcceptedCardSaid := fnExtensionsAccepted.proved
end Go.Proofs.YtjdkcafpgebjfaaDoor
