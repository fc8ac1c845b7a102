/- The law FnEndsAreLeast holds at every input. Written by wip/pack.py: the kit's printed words that are used, the functions' walks as wip/gen.py prints them, and hand proofs. -/
import Derived.Test.YtimjblnglhmakaaDoorKFnEndsAreLeast3
import Derived.Lib.SlicesCompact
import Derived.SizedLaws
import Derived.ChangeSlices
import Derived.Test.YtimjblnglhmakaaDoorRows
import Derived.Test.YtimjblnglhmakaaDoorCards
import Derived.Test.YtimjblnglhmakaaDoorTie
import Derived.WalkKit
import Derived.ProofKit
import Derived.OpenShut
import Derived.ShutString
import Derived.ChangeOld
import Derived.Below
import Derived.LaidMore
import Derived.Stop.Joined
import Derived.Stop.LaidErr
import Derived.Lib.LaidTab
import Derived.Lib.SmallJoins
import Derived.SevenTiedAt
namespace Go.Proofs.YtimjblnglhmakaaDoor.M
open Go.RowKit Go.Proofs.YtimjblnglhmakaaDoorW.PrintMore Go.Proofs.YtimjblnglhmakaaDoorW.PrintLast Go.Proofs.YtimjblnglhmakaaDoorW.PrintWords Go.Proofs.YtimjblnglhmakaaDoor.P
def mir (n : Nat) (l : List Int) : List Int := relL n fun i j => B l j i
theorem mir_rel {n : Nat} {l : List Int} (h : Rel n l) : Rel n (mir n l) := relL_rel n h.le _
theorem mir_B {n : Nat} {l : List Int} (h : Rel n l) (i j : Nat) : B (mir n l) i j = B l j i := by
  unfold mir
  rw [relL_B]
  cases hb : B l j i with
  | false => simp
  | true => simp [h.B_lt hb, h.B_lt' hb]
theorem mirror_ev {n : Nat} {l : List Int} (h : Rel n l) : Ev (fun k => impl_Order_mirror.f k (n : Int) l) ((n : Int), mir n l) := by
  have hn := h.le
  unfold impl_Order_mirror.f
  refine Ev.bind (relation_ev n (by omega) (fun _ x y => impl_Order_mirror_1.f x y (n : Int) l) (fun i j => B l j i) ?_) (Ev.now _)
  intro i j hi hj
  refine Ev.const ?_
  unfold impl_Order_mirror_1.f
  rw [better_eq h n j i hj (by omega)]
  rfl
theorem orBelow_ev {n : Nat} {l : List Int} (h : Rel n l) (z : Int) (i : Nat) (hi : i ≤ 62) : Ev (fun k => spec_orBelow.f k z l (i : Int)) ((setOf n fun j => B l j i : Nat) : Int) := by
  have hlen := h.len
  have hn := h.le
  unfold spec_orBelow.f
  rw [hlen]
  refine Ev.up (fun j k => spec_orBelow.l0 k (i : Int) ((setOf j fun j => B l j i : Nat) : Int) l (n : Int) (j : Int)) n ?_ ?_
  · intro j hj next
    refine Ev.step (fun _ => rfl) ?_
    rw [setOf_bit_or] at next
    simp only [spec_orBelow.l0, if_pos (show (j : Int) < (n : Int) by omega), if_pos (show (0 : Int) ≤ (j : Int) by omega), hlen, h.rd, orHas_eq _ i (by omega), Option.bind_some, next64 j n hj (by omega)]
    rw [show (row l j).testBit i = B l j i from rfl]
    cases hb : B l j i with
    | false =>
      rw [hb] at next
      simpa using next
    | true =>
      rw [hb] at next
      have h2 : (2 : Nat) ^ j < 9223372036854775808 := Nat.lt_of_le_of_lt (Nat.pow_le_pow_right (by decide) (by omega : j ≤ 62)) (by decide)
      simp only [if_true]
      rw [shl1 j (by omega), or_i64 (setOf j fun j => B l j i) (2 ^ j) (setOf_62 _ _ (by omega)) h2]
      simpa using next
  · refine Ev.step (fun _ => rfl) ?_
    simp only [spec_orBelow.l0, if_neg (show ¬ (n : Int) < (n : Int) by omega)]
    exact Ev.now _
theorem pSame_ev (l l' : List Int) (hl : l.length ≤ 140737488355328) : Ev (fun k => laws_pSame.f k l l') (decide (l = l')) := by
  unfold laws_pSame.f
  by_cases h : (l.length : Int) = (l'.length : Int)
  · simp only [if_pos h]
    refine Ev.to (Ev.all (fun i k => laws_pSame.l0 k l l' (l.length : Int) (i : Int)) l.length (fun i => decide (l.getD i 0 = l'.getD i 0)) ?_ ?_ ?_) ?_
    · intro i r hi hp next
      refine Ev.step (fun _ => rfl) ?_
      simp only [laws_pSame.l0, if_pos (show (i : Int) < (l.length : Int) by omega), if_pos (show (0 : Int) ≤ (i : Int) by omega), if_pos (show (i : Int) < (l'.length : Int) by omega), rd_nat, if_pos (of_decide_eq_true hp), next64 i l.length hi (by omega)]
      exact next
    · intro i hi hp
      refine Ev.step (fun _ => rfl) ?_
      simp only [laws_pSame.l0, if_pos (show (i : Int) < (l.length : Int) by omega), if_pos (show (0 : Int) ≤ (i : Int) by omega), if_pos (show (i : Int) < (l'.length : Int) by omega), rd_nat, if_neg (of_decide_eq_false hp)]
      exact Ev.now _
    · refine Ev.step (fun _ => rfl) ?_
      simp only [laws_pSame.l0, if_neg (show ¬ (l.length : Int) < (l.length : Int) by omega)]
      exact Ev.now _
    · rw [Bool.eq_iff_iff, allB_iff, decide_eq_true_iff]
      constructor
      · intro H
        exact list_ext_getD (by omega) fun i hi => of_decide_eq_true (H i hi)
      · rintro rfl i _
        simp
  · simp only [if_neg h]
    refine Ev.to (Ev.now _) ?_
    symm
    rw [decide_eq_false_iff_not]
    rintro rfl
    exact h rfl
theorem pSameOrder_ev (n m : Int) (l l' : List Int) (hl : l.length ≤ 140737488355328) : Ev (fun k => laws_pSameOrder.f k n l m l') (decide (n = m ∧ l = l')) := by
  unfold laws_pSameOrder.f
  by_cases h : n = m
  · simp only [if_pos h]
    refine Ev.bind (pSame_ev l l' hl) (Ev.to (Ev.now _) (by simp [h]))
  · simp only [if_neg h]
    exact Ev.to (Ev.now _) (by simp [h])
end Go.Proofs.YtimjblnglhmakaaDoor.M
namespace Go.Proofs.YtimjblnglhmakaaDoor.M
open Go.RowKit Go.Proofs.YtimjblnglhmakaaDoorW.PrintMore Go.Proofs.YtimjblnglhmakaaDoorW.PrintLast Go.Proofs.YtimjblnglhmakaaDoorW.PrintWords Go.Proofs.YtimjblnglhmakaaDoor.P
def hit22 (l : List Int) (a b c d : Nat) : Bool := B l a b && (B l c d && (!B l c b && !B l a d))
def no22 (n : Nat) (l : List Int) : Bool := allB n fun a => allB n fun b => allB n fun c => allB n fun d => !hit22 l a b c d
theorem no22_iff {n : Nat} {l : List Int} : no22 n l = true ↔ ∀ a, a < n → ∀ b, b < n → ∀ c, c < n → ∀ d, d < n → hit22 l a b c d = false := by
  unfold no22
  simp only [allB_iff, Bool.not_eq_true']
section
variable {n : Nat} {l : List Int}
theorem semi_below (h22 : ∀ a b c d, hit22 l a b c d = false) {i j x : Nat} (h1 : B l x j = true) (h2 : B l x i = false) : ∀ k, B l k i = true → B l k j = true := by
  intro k hk
  cases hb : B l k j with
  | true => rfl
  | false =>
    have := h22 k i x j
    simp [hit22, h1, h2, hk, hb] at this
end
end Go.Proofs.YtimjblnglhmakaaDoor.M
namespace Go.Proofs.YtimjblnglhmakaaDoor.M
open Go.RowKit Go.Proofs.YtimjblnglhmakaaDoorW.PrintMore Go.Proofs.YtimjblnglhmakaaDoorW.PrintLast Go.Proofs.YtimjblnglhmakaaDoorW.PrintWords Go.Proofs.YtimjblnglhmakaaDoor.P
set_option maxRecDepth 4000
theorem twoTwo_ev {n : Nat} {l : List Int} (h : Rel n l) : EvP (fun k => impl_Order_twoTwo.f k (n : Int) l) (fun r => r = []) (∀ a, a < n → ∀ b, b < n → ∀ c, c < n → ∀ d, d < n → hit22 l a b c d = false) := by
  have hn := h.le
  unfold impl_Order_twoTwo.f
  refine EvP.iff (EvP.loop (fun a k => impl_Order_twoTwo.l0 k (n : Int) (a : Int) (n : Int) l) n (fun a => ∀ b, b < n → ∀ c, c < n → ∀ d, d < n → hit22 l a b c d = false) True ?_ ?_) (by rw [and_true])
  · intro a T ha next
    refine EvP.step (fun _ => rfl) ?_
    simp only [impl_Order_twoTwo.l0, if_pos (show (a : Int) < (n : Int) by omega)]
    refine EvP.loop (fun b k => impl_Order_twoTwo.l1 k (a : Int) (n : Int) (a : Int) (n : Int) (b : Int) (n : Int) l) n (fun b => ∀ c, c < n → ∀ d, d < n → hit22 l a b c d = false) T ?_ ?_
    · intro b T hb next
      refine EvP.step (fun _ => rfl) ?_
      simp only [impl_Order_twoTwo.l1, if_pos (show (b : Int) < (n : Int) by omega)]
      refine EvP.loop (fun c k => impl_Order_twoTwo.l2 k (a : Int) (b : Int) (n : Int) (a : Int) (n : Int) (b : Int) (n : Int) (c : Int) (n : Int) l) n (fun c => ∀ d, d < n → hit22 l a b c d = false) T ?_ ?_
      · intro c T hc next
        refine EvP.step (fun _ => rfl) ?_
        simp only [impl_Order_twoTwo.l2, if_pos (show (c : Int) < (n : Int) by omega)]
        refine EvP.loop (fun d k => impl_Order_twoTwo.l3 k (a : Int) (b : Int) (c : Int) (n : Int) (a : Int) (n : Int) (b : Int) (n : Int) (c : Int) (n : Int) (d : Int) (n : Int) l) n (fun d => hit22 l a b c d = false) T ?_ ?_
        · intro d T hd next
          refine EvP.step (fun _ => rfl) ?_
          simp only [impl_Order_twoTwo.l3, if_pos (show (d : Int) < (n : Int) by omega), better_eq h _ _ _ ha (show b ≤ 62 by omega), better_eq h _ _ _ hc (show d ≤ 62 by omega), better_eq h _ _ _ hc (show b ≤ 62 by omega), better_eq h _ _ _ ha (show d ≤ 62 by omega), Option.bind_some, next64 d n hd (by omega)]
          unfold hit22
          cases h1 : B l a b with
          | false => simp only [Bool.false_eq_true, if_false]; exact EvP.iff next (by simp)
          | true =>
            cases h2 : B l c d with
            | false => simp only [Bool.false_eq_true, if_false, if_true]; exact EvP.iff next (by simp)
            | true =>
              cases h3 : B l c b with
              | true => simp only [if_true]; exact EvP.iff next (by simp)
              | false =>
                cases h4 : B l a d with
                | true => simp only [Bool.false_eq_true, if_false, if_true]; exact EvP.iff next (by simp)
                | false => simp only [Bool.false_eq_true, if_false, if_true]; exact EvP.now (by simp)
        · refine EvP.step (fun _ => rfl) ?_
          simp only [impl_Order_twoTwo.l3, if_neg (show ¬ (n : Int) < (n : Int) by omega), next64 c n hc (by omega)]
          exact next
      · refine EvP.step (fun _ => rfl) ?_
        simp only [impl_Order_twoTwo.l2, if_neg (show ¬ (n : Int) < (n : Int) by omega), next64 b n hb (by omega)]
        exact next
    · refine EvP.step (fun _ => rfl) ?_
      simp only [impl_Order_twoTwo.l1, if_neg (show ¬ (n : Int) < (n : Int) by omega), next64 a n ha (by omega)]
      exact next
  · refine EvP.step (fun _ => rfl) ?_
    simp only [impl_Order_twoTwo.l0, if_neg (show ¬ (n : Int) < (n : Int) by omega)]
    exact EvP.now (by simp)
def isInt (n : Int) (l : List Int) : Bool := isOrd n l && no22 n.toNat l
theorem isInterval_ev (n : Int) (l : List Int) (hl : l.length ≤ 140737488355328) : Ev (fun k => impl_isInterval.f k n l) (isInt n l) := by
  unfold impl_isInterval.f isInt
  refine Ev.bind (IsOrder_ev n l hl) ?_
  cases ho : isOrd n l with
  | false => simp only [Bool.false_eq_true, if_false, Bool.false_and]; exact Ev.now _
  | true =>
    obtain ⟨n, rfl, o⟩ := isOrd_iff.1 ho
    simp only [if_true, Bool.true_and, Int.toNat_natCast]
    obtain ⟨r, hr, e⟩ := twoTwo_ev o.toRel
    refine Ev.bind hr (Ev.to (Ev.now _) ?_)
    rw [Bool.eq_iff_iff, beq_iff_eq, no22_iff]
    exact e
end Go.Proofs.YtimjblnglhmakaaDoor.M
namespace Go.Proofs.YtimjblnglhmakaaDoor.P
open Go.RowKit Go.Proofs.YtimjblnglhmakaaDoorW.PrintWords Go.Proofs.YtimjblnglhmakaaDoorW.PrintLast Go.Proofs.YtimjblnglhmakaaDoorW.PrintMore
open Bool renaming true → T, false → F
open List renaming setIfInBounds_toArray → L_, set_cons_zero → M_, set_cons_succ → N_, map_toArray → P_, map_cons → Q_, map_nil → R_, length_drop → S_, length_take → U_
open Aside0 renaming mk → A_
attribute [local go_sem] max2_int min2_int max_two min_two max_three min_three max_four min_four
set_option linter.unusedVariables false
set_option linter.unusedSimpArgs false
attribute [local go_sem] fldOrder_0 fldOrder_1
def spec_orPlace.l0 : Nat → Int → List Int → Int → Int → Option (Int)
 | 0,_,_,_,_=>none
 | k + 1,x1,x7,x8,x9=>if x9 < x8 then (if 0 ≤ x9 then (if x9 < (x7.length : Int) then (if (rd x7 x9) = x1 then (some x9) else (spec_orPlace.l0 k x1 x7 x8 (wrap64 (x9 + 1)))) else (none)) else (none)) else (some (-1))
def spec_orPlace.f (k : Nat) (l0 : List Int) (a1 : Int) : Option (Int) := spec_orPlace.l0 k a1 l0 (l0.length : Int) 0
end Go.Proofs.YtimjblnglhmakaaDoor.P
namespace Go.Proofs.YtimjblnglhmakaaDoor.M
def srt (l : List Int) : List Int := l.mergeSort fun x y => decide (x ≤ y)
theorem srt_perm (l : List Int) : (srt l).Perm l := List.mergeSort_perm _ _
theorem srt_sorted (l : List Int) : (srt l).Pairwise (· ≤ ·) := by
  have h := List.pairwise_mergeSort (le := fun (x y : Int) => decide (x ≤ y)) (by intro a b c h1 h2; simp only [decide_eq_true_iff] at *; omega) (by intro a b; simp only [Bool.or_eq_true, decide_eq_true_iff]; omega) l
  exact h.imp (fun h => of_decide_eq_true h)
def put (T : List Nat) (k i : Nat) : List Nat := T.take k ++ i :: T.drop k
def ins (x : Int) : List Int → List Int
  | [] => [x]
  | y :: l => if y < x then y :: ins x l else if y = x then y :: l else x :: y :: l
def Inc (l : List Int) : Prop := l.Pairwise (· < ·)
theorem mem_ins (x y : Int) (l : List Int) : y ∈ ins x l ↔ y = x ∨ y ∈ l := by
  induction l with
  | nil => simp [ins]
  | cons z l ih =>
    unfold ins
    split
    · rw [List.mem_cons, ih, List.mem_cons]
      constructor
      · rintro (h | h | h)
        · exact .inr (.inl h)
        · exact .inl h
        · exact .inr (.inr h)
      · rintro (h | h | h)
        · exact .inr (.inl h)
        · exact .inl h
        · exact .inr (.inr h)
    · split
      · rename_i h1 h2
        rw [List.mem_cons]
        constructor
        · exact .inr
        · rintro (h | h)
          · exact .inl (h.trans h2.symm)
          · exact h
      · rw [List.mem_cons]
theorem inc_ins (x : Int) (l : List Int) (h : Inc l) : Inc (ins x l) := by
  induction l with
  | nil => simp [ins, Inc]
  | cons z l ih =>
    have h' := List.pairwise_cons.1 h
    unfold ins
    split
    · rename_i hz
      refine List.pairwise_cons.2 ⟨fun y hy => ?_, ih h'.2⟩
      rcases (mem_ins x y l).1 hy with rfl | hy
      · exact hz
      · exact h'.1 y hy
    · split
      · exact h
      · rename_i h1 h2
        refine List.pairwise_cons.2 ⟨fun y hy => ?_, h⟩
        rcases List.mem_cons.1 hy with rfl | hy
        · omega
        · have := h'.1 y hy; omega
def dif (l : List Int) : List Int := l.foldl (fun acc x => ins x acc) []
theorem dif_foldl (l acc : List Int) (h : Inc acc) : Inc (l.foldl (fun acc x => ins x acc) acc) ∧ ∀ y, y ∈ l.foldl (fun acc x => ins x acc) acc ↔ y ∈ acc ∨ y ∈ l := by
  induction l generalizing acc with
  | nil => exact ⟨h, fun y => by simp⟩
  | cons x l ih =>
    obtain ⟨h1, h2⟩ := ih (ins x acc) (inc_ins x acc h)
    refine ⟨h1, fun y => (h2 y).trans ?_⟩
    rw [mem_ins, List.mem_cons]
    constructor
    · rintro ((h | h) | h)
      · exact .inr (.inl h)
      · exact .inl h
      · exact .inr (.inr h)
    · rintro (h | h | h)
      · exact .inl (.inr h)
      · exact .inl (.inl h)
      · exact .inr h
theorem dif_inc (l : List Int) : Inc (dif l) := (dif_foldl l [] List.Pairwise.nil).1
theorem mem_dif (l : List Int) (y : Int) : y ∈ dif l ↔ y ∈ l := by
  have := (dif_foldl l [] List.Pairwise.nil).2 y
  unfold dif
  simpa using this
theorem inc_nodup {l : List Int} (h : Inc l) : l.Nodup := h.imp (fun h => by omega)
theorem inc_ext {l l' : List Int} (h : Inc l) (h' : Inc l') (hm : ∀ y, y ∈ l ↔ y ∈ l') : l = l' :=
  List.Perm.eq_of_pairwise (fun _ _ _ _ h1 h2 => by omega) h h' ((List.perm_ext_iff_of_nodup (inc_nodup h) (inc_nodup h')).2 hm)
theorem dif_length_le (l : List Int) : (dif l).length ≤ l.length := by
  have : ∀ (l acc : List Int), (l.foldl (fun acc x => ins x acc) acc).length ≤ acc.length + l.length := by
    intro l
    induction l with
    | nil => intro acc; simp
    | cons x l ih =>
      intro acc
      have h1 := ih (ins x acc)
      have h2 : (ins x acc).length ≤ acc.length + 1 := by
        clear h1 ih
        induction acc with
        | nil => simp [ins]
        | cons y acc ih => unfold ins; split <;> (try split) <;> simp <;> omega
      simp only [List.foldl_cons, List.length_cons]
      omega
  unfold dif
  simpa using this l []
def rank (l : List Int) (x : Int) : Nat := (dif l).countP fun y => decide (y < x)
theorem inc_place {l : List Int} (h : Inc l) (k : Nat) (hk : k < l.length) : l.countP (fun y => decide (y < l[k])) = k := by
  have hp := List.pairwise_iff_getElem.1 h
  have e : l = l.take k ++ l.drop k := (List.take_append_drop k l).symm
  have h1 : (l.take k).countP (fun y => decide (y < l[k])) = (l.take k).length := by
    rw [List.countP_eq_length]
    intro y hy
    obtain ⟨j, hj, rfl⟩ := List.mem_iff_getElem.1 hy
    rw [List.length_take] at hj
    rw [List.getElem_take, decide_eq_true_iff]
    exact hp j k (by omega) hk (by omega)
  have h2 : (l.drop k).countP (fun y => decide (y < l[k])) = 0 := by
    rw [List.countP_eq_zero]
    intro y hy
    obtain ⟨j, hj, rfl⟩ := List.mem_iff_getElem.1 hy
    rw [List.length_drop] at hj
    rw [List.getElem_drop, decide_eq_true_iff]
    by_cases h0 : j = 0
    · subst h0; simp
    · have := hp k (k + j) hk (by omega) (by omega); omega
  calc l.countP (fun y => decide (y < l[k])) = (l.take k ++ l.drop k).countP (fun y => decide (y < l[k])) := by rw [List.take_append_drop]
    _ = k := by rw [List.countP_append, h1, h2, List.length_take]; omega
theorem rank_at (l : List Int) (k : Nat) (hk : k < (dif l).length) : rank l (dif l)[k] = k := inc_place (dif_inc l) k hk
theorem rank_lt {l : List Int} {x : Int} (h : x ∈ l) : ∃ hk : rank l x < (dif l).length, (dif l)[rank l x] = x := by
  obtain ⟨k, hk, e⟩ := List.mem_iff_getElem.1 ((mem_dif l x).2 h)
  have := rank_at l k hk
  rw [e] at this
  exact ⟨by omega, by simp only [this]; exact e⟩
theorem rank_lt_iff {l : List Int} {x y : Int} (hx : x ∈ l) (hy : y ∈ l) : rank l x < rank l y ↔ x < y := by
  obtain ⟨h1, e1⟩ := rank_lt hx
  obtain ⟨h2, e2⟩ := rank_lt hy
  constructor
  · intro h
    have := List.pairwise_iff_getElem.1 (dif_inc l) _ _ h1 h2 h
    rwa [e1, e2] at this
  · intro h
    rcases Nat.lt_or_ge (rank l x) (rank l y) with h3 | h3
    · exact h3
    · rcases Nat.lt_or_eq_of_le h3 with h4 | h4
      · have := List.pairwise_iff_getElem.1 (dif_inc l) _ _ h2 h1 h4
        rw [e1, e2] at this
        omega
      · have : (dif l)[rank l y] = (dif l)[rank l x] := by simp only [h4]
        rw [e1, e2] at this
        omega
theorem dif_map {α : Type} (L : List α) (f g : α → Int) (h : ∀ x ∈ L, ∀ y ∈ L, f x < f y ↔ g x < g y) (x : α) (hx : x ∈ L) : rank (L.map f) (f x) = rank (L.map g) (g x) := by
  have key : ∀ (f g : α → Int), (∀ x ∈ L, ∀ y ∈ L, f x < f y ↔ g x < g y) → rank (L.map f) (f x) ≤ rank (L.map g) (g x) := by
    intro f g h
    have hsub : ∀ (M : List Int), Inc M → (∀ z ∈ M, z ∈ L.map f ∧ z < f x) → M.length ≤ rank (L.map g) (g x) := by
      intro M hM hz
      -- the g's of the members of M, in order
      have : ∃ N : List Int, N.length = M.length ∧ Inc N ∧ ∀ z ∈ N, z ∈ L.map g ∧ z < g x := by
        have step : ∀ (M : List Int), Inc M → (∀ z ∈ M, z ∈ L.map f ∧ z < f x) → ∃ N : List α, N.map f = M ∧ (∀ z ∈ N, z ∈ L ∧ f z < f x) := by
          intro M
          induction M with
          | nil => intro _ _; exact ⟨[], rfl, by simp⟩
          | cons m M ih =>
            intro hM hz
            obtain ⟨N, e, hN⟩ := ih (List.pairwise_cons.1 hM).2 fun z hzM => hz z (List.mem_cons_of_mem _ hzM)
            obtain ⟨h1, h2⟩ := hz m List.mem_cons_self
            obtain ⟨a, ha, rfl⟩ := List.mem_map.1 h1
            refine ⟨a :: N, by rw [List.map_cons, e], fun z hzN => ?_⟩
            rcases List.mem_cons.1 hzN with rfl | hzN
            · exact ⟨ha, h2⟩
            · exact hN z hzN
        obtain ⟨N, e, hN⟩ := step M hM hz
        refine ⟨N.map g, by rw [← e]; simp, ?_, ?_⟩
        · rw [Inc, ← e] at hM
          have hM : N.Pairwise fun a b => f a < f b := List.pairwise_map.1 hM
          refine List.pairwise_map.2 (List.Pairwise.imp_of_mem (fun ha hb hab => ?_) hM)
          exact (h _ (hN _ ha).1 _ (hN _ hb).1).1 hab
        · intro z hz
          obtain ⟨a, ha, rfl⟩ := List.mem_map.1 hz
          exact ⟨List.mem_map_of_mem (hN a ha).1, (h _ (hN a ha).1 _ hx).1 (hN a ha).2⟩
      obtain ⟨N, e, hN, hz⟩ := this
      rw [← e]
      have hs : N.Nodup := inc_nodup hN
      have hf : ((dif (L.map g)).filter fun y => decide (y < g x)).Nodup := List.Nodup.sublist List.filter_sublist (inc_nodup (dif_inc _))
      have : N.Subset ((dif (L.map g)).filter fun y => decide (y < g x)) := by
        intro z hzN
        rw [List.mem_filter, mem_dif, decide_eq_true_iff]
        exact hz z hzN
      unfold rank
      rw [List.countP_eq_length_filter]
      exact List.Nodup.length_le_of_subset hs this
    unfold rank
    rw [List.countP_eq_length_filter]
    refine hsub _ ((dif_inc _).sublist List.filter_sublist) fun z hz => ?_
    rw [List.mem_filter, mem_dif, decide_eq_true_iff] at hz
    exact hz
  exact Nat.le_antisymm (key f g h) (key g f fun a ha b hb => (h a ha b hb).symm)
theorem compact_srt (l : List Int) : Lib.compact (srt l) = dif l := by
  have hs := srt_sorted l
  have hp := List.pairwise_iff_getElem.1 hs
  have hg : ∀ j (hj : j < (srt l).length), (srt l).toArray[j]! = (srt l)[j] := by intro j hj; simp [hj]
  refine inc_ext ?_ (dif_inc l) fun y => ?_
  · unfold Lib.compact Lib.compactUpTo Inc
    rw [List.pairwise_map]
    refine List.Pairwise.imp_of_mem (R := fun a b => a < b) (fun {a b} ha hb hab => ?_) (List.pairwise_lt_range.sublist List.filter_sublist)
    rw [List.mem_filter, List.mem_range] at ha hb
    have hk := hb.2
    unfold Lib.keeps at hk
    rw [decide_eq_true_iff] at hk
    have hk := hk.resolve_left (by omega)
    rw [hg a ha.1, hg b hb.1]
    rw [hg b hb.1, hg (b - 1) (by omega)] at hk
    have h1 := hp (b - 1) b (by omega) hb.1 (by omega)
    by_cases hab' : a = b - 1
    · subst hab'; omega
    · have := hp a (b - 1) ha.1 (by omega) (by omega); omega
  · rw [mem_dif, ← (srt_perm l).mem_iff]
    unfold Lib.compact Lib.compactUpTo
    rw [List.mem_map]
    constructor
    · rintro ⟨j, hj, rfl⟩
      rw [List.mem_filter, List.mem_range] at hj
      rw [hg j hj.1]
      exact List.getElem_mem _
    · intro hy
      obtain ⟨j, hj, e⟩ := List.mem_iff_getElem.1 hy
      induction j using Nat.strongRecOn with
      | _ j ih =>
        by_cases h0 : j = 0 ∨ (srt l)[j] ≠ (srt l)[j - 1]'(by omega)
        · refine ⟨j, ?_, by rw [hg j hj]; exact e⟩
          rw [List.mem_filter, List.mem_range]
          refine ⟨hj, ?_⟩
          unfold Lib.keeps
          rw [decide_eq_true_iff, hg j hj, hg (j - 1) (by omega)]
          exact h0
        · have h1 : ¬ j = 0 := fun h => h0 (.inl h)
          have h2 : (srt l)[j] = (srt l)[j - 1]'(by omega) := Decidable.byContradiction fun h => h0 (.inr h)
          exact ih (j - 1) (by omega) (by omega) (by rw [← h2]; exact e)
end Go.Proofs.YtimjblnglhmakaaDoor.M
namespace Go.Proofs.YtimjblnglhmakaaDoor.M
open Go.RowKit Go.Proofs.YtimjblnglhmakaaDoorW.PrintMore Go.Proofs.YtimjblnglhmakaaDoorW.PrintLast Go.Proofs.YtimjblnglhmakaaDoorW.PrintWords Go.Proofs.YtimjblnglhmakaaDoor.P
theorem diff_le {a b : Nat} (h : diff a b = 0) : a ≤ b := by
  have e : a &&& b = a := by
    apply Nat.eq_of_testBit_eq
    intro j
    rw [Nat.testBit_and]
    cases hj : a.testBit j with
    | false => simp
    | true => rw [(diff_zero a b).1 h j hj]; rfl
  have := Nat.and_le_right (n := a) (m := b)
  omega
def level (sets : List Int) (own : Nat) : Nat := sets.countP fun s => decide (s ≠ (own : Int) ∧ diff s.toNat own = 0)
theorem levels_rank (n : Nat) (low : Nat → Nat) (x : Nat → Int) (h1 : ∀ i j, i < n → j < n → x i < x j → diff (low i) (low j) = 0 ∧ low i ≠ low j) (h2 : ∀ i j, i < n → j < n → x i = x j → low i = low j) (j : Nat) (hj : j < n) :
    level (dif ((List.range n).map fun i => ((low i : Nat) : Int))) (low j) = rank ((List.range n).map x) (x j) := by
  have key : ∀ i, i < n → ∀ j, j < n → (((low i : Nat) : Int) < ((low j : Nat) : Int) ↔ x i < x j) := by
    intro i hi j hj
    constructor
    · intro h
      rcases Int.lt_trichotomy (x i) (x j) with h3 | h3 | h3
      · exact h3
      · have := h2 i j hi hj h3; omega
      · have := diff_le (h1 j i hj hi h3).1; omega
    · intro h
      have := h1 i j hi hj h
      have h3 := diff_le this.1
      have h4 := this.2
      omega
  rw [← dif_map (List.range n) (fun i => ((low i : Nat) : Int)) x (fun a ha b hb => key a (List.mem_range.1 ha) b (List.mem_range.1 hb)) j (List.mem_range.2 hj)]
  unfold level rank
  apply List.countP_congr
  intro s hs
  rw [mem_dif, List.mem_map] at hs
  obtain ⟨i, hi, rfl⟩ := hs
  have hi := List.mem_range.1 hi
  rw [decide_eq_true_iff, decide_eq_true_iff]
  constructor
  · rintro ⟨a, b⟩
    have := diff_le b
    rw [Int.toNat_natCast] at this
    omega
  · intro h
    obtain ⟨a, b⟩ := h1 i j hi hj ((key i hi j hj).1 h)
    refine ⟨by omega, by rw [Int.toNat_natCast]; exact a⟩
end Go.Proofs.YtimjblnglhmakaaDoor.M
namespace Go.Proofs.YtimjblnglhmakaaDoor.P
open Go.RowKit Go.Proofs.YtimjblnglhmakaaDoorW.PrintWords Go.Proofs.YtimjblnglhmakaaDoorW.PrintLast Go.Proofs.YtimjblnglhmakaaDoorW.PrintMore
open Bool renaming true → T, false → F
open List renaming setIfInBounds_toArray → L_, set_cons_zero → M_, set_cons_succ → N_, map_toArray → P_, map_cons → Q_, map_nil → R_, length_drop → S_, length_take → U_
open Aside0 renaming mk → A_
attribute [local go_sem] max2_int min2_int max_two min_two max_three min_three max_four min_four
set_option linter.unusedVariables false
set_option linter.unusedSimpArgs false
attribute [local go_sem] fldOrder_0 fldOrder_1
mutual
def spec_weOfNumbers.l0 : Nat → List Int → List Int → List Int → Int → Int → Option (List Int)
 | 0,_,_,_,_,_=>none
 | k + 1,x0,x3,x9,x10,x11=>if x11 < x10 then (if 0 ≤ x11 then (if x11 < (x9.length : Int) then ((spec_l1Put.f k x3 (rd x9 x11)).bind fun t581=>(spec_weOfNumbers.l0 k x0 t581 x9 x10 (wrap64 (x11 + 1)))) else (none)) else (none)) else (spec_weOfNumbers.l1 k x3 ([] : List Int) x0 (x0.length : Int) 0)
def spec_weOfNumbers.l1 : Nat → List Int → List Int → List Int → Int → Int → Option (List Int)
 | 0,_,_,_,_,_=>none
 | k + 1,x3,x4,x19,x20,x21=>if x21 < x20 then (if 0 ≤ x21 then (if x21 < (x19.length : Int) then ((spec_orPlace.f k x3 (rd x19 x21)).bind fun t585=>(if x4.length < 17592186044416 then (spec_weOfNumbers.l1 k x3 (x4 ++ [t585]) x19 x20 (wrap64 (x21 + 1))) else (none))) else (none)) else (none)) else (some x4)
end
end Go.Proofs.YtimjblnglhmakaaDoor.P
namespace Go.Proofs.YtimjblnglhmakaaDoor.M
open Go.RowKit Go.Proofs.YtimjblnglhmakaaDoorW.PrintMore Go.Proofs.YtimjblnglhmakaaDoorW.PrintLast Go.Proofs.YtimjblnglhmakaaDoorW.PrintWords Go.Proofs.YtimjblnglhmakaaDoor.P
set_option maxRecDepth 4000
theorem ins_at (x : Int) (l : List Int) (p : Nat) (hp : p ≤ l.length) (h1 : ∀ j, j < p → l.getD j 0 < x) (h2 : p < l.length → ¬ l.getD p 0 < x) : ins x l = if p < l.length ∧ l.getD p 0 = x then l else l.take p ++ x :: l.drop p := by
  induction l generalizing p with
  | nil =>
    obtain rfl : p = 0 := by simpa using hp
    simp [ins]
  | cons y l ih =>
    cases p with
    | zero =>
      have h2 := h2 (by simp)
      simp only [List.getD_cons_zero] at h2
      unfold ins
      rw [if_neg h2]
      simp
    | succ p =>
      have hy : y < x := by simpa using h1 0 (by omega)
      unfold ins
      rw [if_pos hy, ih p (by simpa using hp) (fun j hj => by simpa using h1 (j + 1) (by omega)) (fun hlt => by simpa using h2 (by simpa using hlt))]
      by_cases hc : p < l.length ∧ l.getD p 0 = x
      · rw [if_pos hc, if_pos (by simpa using hc)]
      · rw [if_neg hc, if_neg (by simpa using hc)]
        simp
theorem l1Put_ev (l : List Int) (x : Int) (hl : l.length ≤ 1048576) : Ev (fun k => spec_l1Put.f k l x) (ins x l) := by
  unfold spec_l1Put.f
  have key : ∀ m p, p + m = l.length → (∀ j, j < p → l.getD j 0 < x) → Ev (fun k => spec_l1Put.l0 k l x (p : Int)) (ins x l) := by
    intro m
    induction m with
    | zero =>
      intro p hp h1
      have e := ins_at x l p (by omega) h1 (fun h => by omega)
      rw [if_neg (fun h => by omega)] at e
      rw [e]
      refine Ev.step (fun _ => rfl) ?_
      simp only [spec_l1Put.l0, if_neg (show ¬ (p : Int) < (l.length : Int) by omega), if_pos (show (0 : Int) ≤ (p : Int) by omega), if_pos (show (p : Int) ≤ (l.length : Int) by omega), Option.bind_some, Int.toNat_natCast, List.nil_append, List.length_nil, List.length_append, List.length_take, List.length_drop, List.length_singleton,
        if_pos (show 0 + min p l.length < 17592186044416 by omega), if_pos (show 0 + min p l.length + 1 + (l.length - p) < 17592186044416 by omega)]
      exact Ev.to (Ev.now _) (by simp)
    | succ m ih =>
      intro p hp h1
      refine Ev.step (fun _ => rfl) ?_
      by_cases c : l.getD p 0 < x
      · simp only [spec_l1Put.l0, if_pos (show (p : Int) < (l.length : Int) by omega), if_pos (show (0 : Int) ≤ (p : Int) by omega), rd_nat, if_pos c, next64 p l.length (by omega) (by omega)]
        refine ih (p + 1) (by omega) fun j hj => ?_
        by_cases e : j = p
        · rw [e]; exact c
        · exact h1 j (by omega)
      · have e := ins_at x l p (by omega) h1 (fun _ => c)
        by_cases c2 : l.getD p 0 = x
        · rw [if_pos ⟨by omega, c2⟩] at e
          rw [e]
          simp only [spec_l1Put.l0, if_pos (show (p : Int) < (l.length : Int) by omega), if_pos (show (0 : Int) ≤ (p : Int) by omega), rd_nat, if_neg c, if_pos c2]
          exact Ev.now _
        · rw [if_neg (fun h => c2 h.2)] at e
          rw [e]
          simp only [spec_l1Put.l0, if_pos (show (p : Int) < (l.length : Int) by omega), if_pos (show (0 : Int) ≤ (p : Int) by omega), rd_nat, if_neg c, if_neg c2, if_pos (show (p : Int) ≤ (l.length : Int) by omega), Option.bind_some, Int.toNat_natCast, List.nil_append, List.length_nil, List.length_append, List.length_take, List.length_drop, List.length_singleton,
            if_pos (show 0 + min p l.length < 17592186044416 by omega), if_pos (show 0 + min p l.length + 1 + (l.length - p) < 17592186044416 by omega)]
          exact Ev.to (Ev.now _) (by simp)
  exact key l.length 0 (by omega) (fun j hj => by omega)
theorem take_next {zs : List Int} (i : Nat) (hi : i < zs.length) : zs.take (i + 1) = zs.take i ++ [zs.getD i 0] := by rw [List.take_add_one]; simp [hi]
theorem different_eq (l : List Int) (h : l.length ≤ 1048576) : impl_different.f l = some (dif l) := by
  unfold impl_different.f
  rw [if_pos (by omega), show HD.srt l = srt l from rfl, compact_srt]
theorem Rel.rows {n : Nat} {l : List Int} (h : Rel n l) : l = (List.range n).map fun i => ((row l i : Nat) : Int) := by
  refine list_ext_getD (by rw [h.len]; simp) fun i hi => ?_
  rw [h.len] at hi
  rw [h.getD]
  simp [hi]
def levelsL (n : Nat) (m : List Int) : List Int := (List.range n).map fun j => ((level (dif m) (row m j) : Nat) : Int)
theorem level_snoc (L : List Int) (s : Int) (own : Nat) : level (L ++ [s]) own = level L own + if s ≠ (own : Int) ∧ diff s.toNat own = 0 then 1 else 0 := by
  unfold level
  rw [List.countP_append, List.countP_singleton]
  simp only [decide_eq_true_iff]
theorem level_le (L : List Int) (own : Nat) : level L own ≤ L.length := List.countP_le_length
theorem levels_ev {n : Nat} {l : List Int} (h : Rel n l) : Ev (fun k => impl_Order_levels.f k (n : Int) l) (levelsL n (mir n l)) := by
  have hn := h.le
  have hm := mir_rel h
  have hd := dif_length_le (mir n l)
  rw [hm.len] at hd
  unfold impl_Order_levels.f
  refine Ev.bind (mirror_ev h) ?_
  simp only [different_eq (mir n l) (by rw [hm.len]; omega), Option.bind_some, hm.len]
  refine Ev.up (fun j k => impl_Order_levels.l0 k ((List.range j).map fun j => ((level (dif (mir n l)) (row (mir n l) j) : Nat) : Int)) (dif (mir n l)) (mir n l) (n : Int) (j : Int)) n ?_ ?_
  · intro j hj next
    refine Ev.step (fun _ => rfl) ?_
    simp only [impl_Order_levels.l0, if_pos (show (j : Int) < (n : Int) by omega), if_pos (show (0 : Int) ≤ (j : Int) by omega), hm.len, hm.rd]
    refine Ev.up (fun q k => impl_Order_levels.l1 k ((List.range j).map fun j => ((level (dif (mir n l)) (row (mir n l) j) : Nat) : Int)) (dif (mir n l)) ((row (mir n l) j : Nat) : Int) ((level ((dif (mir n l)).take q) (row (mir n l) j) : Nat) : Int) (mir n l) (n : Int) (j : Int) (dif (mir n l)) ((dif (mir n l)).length : Int) (q : Int)) (dif (mir n l)).length ?_ ?_
    · intro q hq next
      obtain ⟨i, hi, hs⟩ : ∃ i, i < n ∧ (dif (mir n l)).getD q 0 = ((row (mir n l) i : Nat) : Int) := by
        have hmem : (dif (mir n l)).getD q 0 ∈ dif (mir n l) := by simp [hq]
        rw [mem_dif] at hmem
        rw [hm.rows] at hmem
        obtain ⟨i, hi, e⟩ := List.mem_map.1 hmem
        exact ⟨i, List.mem_range.1 hi, by rw [← hm.rows] at e; exact e.symm⟩
      have hlv := level_le ((dif (mir n l)).take q) (row (mir n l) j)
      rw [List.length_take] at hlv
      rw [take_next q hq, level_snoc, hs, Int.toNat_natCast] at next
      refine Ev.step (fun _ => rfl) ?_
      simp only [impl_Order_levels.l1, if_pos (show (q : Int) < ((dif (mir n l)).length : Int) by omega), if_pos (show (0 : Int) ≤ (q : Int) by omega), rd_nat, hs, andNot_i64 _ _ (hm.row_62 i) (hm.row_62 j), next64 q _ hq (by omega)]
      by_cases c : row (mir n l) i = row (mir n l) j
      · rw [if_neg (fun h => h.1 (by omega))] at next
        simp only [if_pos (show ((row (mir n l) i : Nat) : Int) = ((row (mir n l) j : Nat) : Int) by omega)]
        exact next
      · simp only [if_neg (show ¬ ((row (mir n l) i : Nat) : Int) = ((row (mir n l) j : Nat) : Int) by omega)]
        by_cases c2 : diff (row (mir n l) i) (row (mir n l) j) = 0
        · rw [if_pos ⟨by omega, c2⟩] at next
          simp only [if_pos (show ((diff (row (mir n l) i) (row (mir n l) j) : Nat) : Int) = 0 by omega), next64 (level ((dif (mir n l)).take q) (row (mir n l) j)) 1048576 (by omega) (by omega)]
          exact next
        · rw [if_neg (fun h => c2 h.2)] at next
          simp only [if_neg (show ¬ ((diff (row (mir n l) i) (row (mir n l) j) : Nat) : Int) = 0 by omega)]
          exact next
    · refine Ev.step (fun _ => rfl) ?_
      simp only [impl_Order_levels.l1, if_neg (show ¬ ((dif (mir n l)).length : Int) < ((dif (mir n l)).length : Int) by omega), List.length_map, List.length_range, if_pos (show j < 17592186044416 by omega), List.take_length, next64 j n hj (by omega)]
      simpa [List.range_succ] using next
  · refine Ev.step (fun _ => rfl) ?_
    simp only [impl_Order_levels.l0, if_neg (show ¬ (n : Int) < (n : Int) by omega)]
    exact Ev.now _
end Go.Proofs.YtimjblnglhmakaaDoor.M
namespace Go.Proofs.YtimjblnglhmakaaDoor.M
open Go.RowKit Go.Proofs.YtimjblnglhmakaaDoorW.PrintMore Go.Proofs.YtimjblnglhmakaaDoorW.PrintLast Go.Proofs.YtimjblnglhmakaaDoorW.PrintWords Go.Proofs.YtimjblnglhmakaaDoor.P
set_option maxRecDepth 4000
abbrev Iv := S62
def Lf (L : List Iv) (i : Nat) : Int := (L.getD i z62).f0
def Rt (L : List Iv) (i : Nat) : Int := (L.getD i z62).f1
theorem rd_iv0 (L : List Iv) (i : Nat) : (rd_T62 L (i : Int)).f0 = Lf L i := by simp [rd_T62, Lf]
theorem rd_iv1 (L : List Iv) (i : Nat) : (rd_T62 L (i : Int)).f1 = Rt L i := by simp [rd_T62, Rt]
theorem if_and (a b : Bool) : (if a then b else false) = (a && b) := by cases a <;> cases b <;> rfl
theorem Ev.allv2 {α : Type} (G : Nat → Nat → Option α) (n : Nat) (p : Nat → Bool) (vt vf : α) (yes : ∀ i r, i < n → p i = true → Ev (G (i + 1)) r → Ev (G i) r) (no : ∀ i, i < n → p i = false → Ev (G i) vf) (stop : Ev (G n) vt) :
    Ev (G 0) (if allB n p then vt else vf) := by
  cases h : allB n p with
  | true =>
    have h := allB_iff.1 h
    rw [if_pos rfl]
    exact Ev.up G n (fun i hi => yes i vt hi (h i hi)) stop
  | false =>
    obtain ⟨j, hj, hp, hl⟩ := least_false (allB_false.1 h)
    rw [if_neg (by simp)]
    exact Ev.up G j (fun i hi => yes i vf (by omega) (hl i hi)) (no j hj hp)
def ivAt (L : List Iv) (i : Nat) : Bool := decide (-1000 ≤ Lf L i ∧ Lf L i ≤ Rt L i ∧ Rt L i ≤ 1000)
def ivOk (L : List Iv) : Bool := allB L.length (ivAt L) && decide ((L.length : Int) ≤ 10)
theorem ivOk_iff {L : List Iv} : ivOk L = true ↔ (∀ i, i < L.length → -1000 ≤ Lf L i ∧ Lf L i ≤ Rt L i ∧ Rt L i ≤ 1000) ∧ L.length ≤ 10 := by
  unfold ivOk ivAt
  rw [Bool.and_eq_true, allB_iff, decide_eq_true_iff]
  constructor
  · rintro ⟨H, h⟩
    exact ⟨fun i hi => of_decide_eq_true (H i hi), by omega⟩
  · rintro ⟨H, h⟩
    exact ⟨fun i hi => decide_eq_true (H i hi), by omega⟩
theorem AreIntervals_ev (L : List Iv) (hl : L.length ≤ 1048576) : Ev (fun k => impl_AreIntervals.f k L) (ivOk L) := by
  unfold impl_AreIntervals.f ivOk
  refine Ev.to (Ev.allv2 (fun i k => impl_AreIntervals.l0 k L L (L.length : Int) (i : Int)) L.length (ivAt L) (decide ((L.length : Int) ≤ 10)) false ?_ ?_ ?_) (if_and _ _)
  · intro i r hi hp next
    have hp : -1000 ≤ Lf L i ∧ Lf L i ≤ Rt L i ∧ Rt L i ≤ 1000 := of_decide_eq_true hp
    refine Ev.step (fun _ => rfl) ?_
    simp only [impl_AreIntervals.l0, if_pos (show (i : Int) < (L.length : Int) by omega), if_pos (show (0 : Int) ≤ (i : Int) by omega), rd_iv0, rd_iv1, within_eq, Option.bind_some, decide_eq_true (show -1000 ≤ Lf L i ∧ Lf L i ≤ 1000 by omega), decide_eq_true (show Lf L i ≤ Rt L i ∧ Rt L i ≤ 1000 by omega), if_true, next64 i L.length hi (by omega)]
    exact next
  · intro i hi hp
    have hp : ¬ (-1000 ≤ Lf L i ∧ Lf L i ≤ Rt L i ∧ Rt L i ≤ 1000) := of_decide_eq_false hp
    refine Ev.step (fun _ => rfl) ?_
    by_cases c : -1000 ≤ Lf L i ∧ Lf L i ≤ 1000
    · simp only [impl_AreIntervals.l0, if_pos (show (i : Int) < (L.length : Int) by omega), if_pos (show (0 : Int) ≤ (i : Int) by omega), rd_iv0, rd_iv1, within_eq, Option.bind_some, decide_eq_true c, decide_eq_false (show ¬ (Lf L i ≤ Rt L i ∧ Rt L i ≤ 1000) by omega), if_true, Bool.false_eq_true, if_false]
      exact Ev.now _
    · simp only [impl_AreIntervals.l0, if_pos (show (i : Int) < (L.length : Int) by omega), if_pos (show (0 : Int) ≤ (i : Int) by omega), rd_iv0, within_eq, Option.bind_some, decide_eq_false c, Bool.false_eq_true, if_false]
      exact Ev.now _
  · refine Ev.step (fun _ => rfl) ?_
    simp only [impl_AreIntervals.l0, if_neg (show ¬ (L.length : Int) < (L.length : Int) by omega)]
    exact Ev.now _
theorem ivGood_ev (L : List Iv) (hl : L.length ≤ 1048576) : Ev (fun k => spec_ivGood.f k L) (ivOk L) := by
  unfold spec_ivGood.f ivOk
  refine Ev.to (Ev.allv2 (fun i k => spec_ivGood.l0 k L L (L.length : Int) (i : Int)) L.length (ivAt L) (decide ((L.length : Int) ≤ 10)) false ?_ ?_ ?_) (if_and _ _)
  · intro i r hi hp next
    have hp : -1000 ≤ Lf L i ∧ Lf L i ≤ Rt L i ∧ Rt L i ≤ 1000 := of_decide_eq_true hp
    refine Ev.step (fun _ => rfl) ?_
    simp only [spec_ivGood.l0, if_pos (show (i : Int) < (L.length : Int) by omega), if_pos (show (0 : Int) ≤ (i : Int) by omega), rd_iv0, rd_iv1, l1In_eq, Option.bind_some, decide_eq_true (show -1000 ≤ Lf L i ∧ Lf L i ≤ Rt L i by omega), if_true, if_neg (show ¬ Rt L i > 1000 by omega), next64 i L.length hi (by omega)]
    exact next
  · intro i hi hp
    have hp : ¬ (-1000 ≤ Lf L i ∧ Lf L i ≤ Rt L i ∧ Rt L i ≤ 1000) := of_decide_eq_false hp
    refine Ev.step (fun _ => rfl) ?_
    by_cases c : -1000 ≤ Lf L i ∧ Lf L i ≤ Rt L i
    · simp only [spec_ivGood.l0, if_pos (show (i : Int) < (L.length : Int) by omega), if_pos (show (0 : Int) ≤ (i : Int) by omega), rd_iv0, rd_iv1, l1In_eq, Option.bind_some, decide_eq_true c, if_true, if_pos (show Rt L i > 1000 by omega)]
      exact Ev.now _
    · simp only [spec_ivGood.l0, if_pos (show (i : Int) < (L.length : Int) by omega), if_pos (show (0 : Int) ≤ (i : Int) by omega), rd_iv0, rd_iv1, l1In_eq, Option.bind_some, decide_eq_false c, Bool.false_eq_true, if_false]
      exact Ev.now _
  · refine Ev.step (fun _ => rfl) ?_
    simp only [spec_ivGood.l0, if_neg (show ¬ (L.length : Int) < (L.length : Int) by omega)]
    exact Ev.now _
def ivR (L : List Iv) : List Int := relL L.length fun i j => decide (Rt L i < Lf L j)
theorem orderOf_ev (L : List Iv) (hl : L.length ≤ 62) : Ev (fun k => impl_orderOf.f k L) ((L.length : Int), ivR L) := by
  unfold impl_orderOf.f
  refine Ev.bind (relation_ev L.length hl (fun _ x y => impl_orderOf_1.f x y L) (fun i j => decide (Rt L i < Lf L j)) ?_) (Ev.now _)
  intro i j hi hj
  refine Ev.const ?_
  unfold impl_orderOf_1.f
  simp only [if_pos (show (0 : Int) ≤ (i : Int) by omega), if_pos (show (0 : Int) ≤ (j : Int) by omega), if_pos (show (i : Int) < (L.length : Int) by omega), if_pos (show (j : Int) < (L.length : Int) by omega), rd_iv0, rd_iv1]
theorem ivOrder_ev (L : List Iv) (hl : L.length ≤ 62) : Ev (fun k => spec_ivOrder.f k L) ((L.length : Int), ivR L) := by
  unfold spec_ivOrder.f
  have h0 : Ev (fun k => spec_ivOrder.l0 k L L (L.length : Int) ((0 : Nat) : Int) (L.length : Int) ((List.range 0).map fun i => ((setOf L.length fun j => decide (Rt L i < Lf L j) : Nat) : Int))) ((L.length : Int), ivR L) := by
    refine Ev.up (fun i k => spec_ivOrder.l0 k L L (L.length : Int) (i : Int) (L.length : Int) ((List.range i).map fun i => ((setOf L.length fun j => decide (Rt L i < Lf L j) : Nat) : Int))) L.length ?_ ?_
    · intro i hi next
      refine Ev.step (fun _ => rfl) ?_
      simp only [spec_ivOrder.l0, if_pos (show (i : Int) < (L.length : Int) by omega), if_pos (show (0 : Int) ≤ (i : Int) by omega), rd_iv0, rd_iv1]
      refine Ev.up (fun j k => spec_ivOrder.l1 k L ((setOf j fun j => decide (Rt L i < Lf L j) : Nat) : Int) L (L.length : Int) (i : Int) L (L.length : Int) (j : Int) (L.length : Int) ((List.range i).map fun i => ((setOf L.length fun j => decide (Rt L i < Lf L j) : Nat) : Int)) (Lf L i) (Rt L i)) L.length ?_ ?_
      · intro j hj next
        refine Ev.step (fun _ => rfl) ?_
        rw [setOf_bit_or] at next
        have h2 : (2 : Nat) ^ j < 9223372036854775808 := Nat.lt_of_le_of_lt (Nat.pow_le_pow_right (by decide) (by omega : j ≤ 62)) (by decide)
        have h1 := setOf_62 j (fun j => decide (Rt L i < Lf L j)) (by omega)
        by_cases c : Rt L i < Lf L j
        · rw [decide_eq_true c, if_pos rfl] at next
          simp only [spec_ivOrder.l1, if_pos (show (j : Int) < (L.length : Int) by omega), if_pos (show (0 : Int) ≤ (j : Int) by omega), rd_iv0, if_pos c, shl1 j (by omega), or_i64 _ _ h1 h2, next64 j L.length hj (by omega)]
          exact next
        · rw [decide_eq_false c, if_neg (by simp)] at next
          simp only [spec_ivOrder.l1, if_pos (show (j : Int) < (L.length : Int) by omega), if_pos (show (0 : Int) ≤ (j : Int) by omega), rd_iv0, if_neg c, next64 j L.length hj (by omega)]
          exact next
      · refine Ev.step (fun _ => rfl) ?_
        simp only [spec_ivOrder.l1, if_neg (show ¬ (L.length : Int) < (L.length : Int) by omega), List.length_map, List.length_range, if_pos (show i < 17592186044416 by omega), next64 i L.length hi (by omega)]
        simpa [List.range_succ] using next
    · refine Ev.step (fun _ => rfl) ?_
      simp only [spec_ivOrder.l0, if_neg (show ¬ (L.length : Int) < (L.length : Int) by omega)]
      exact Ev.now _
  exact h0
def ofIv (L : List Iv) : Int × List Int × Bool := if ivOk L then ((L.length : Int), ivR L, true) else (0, [], false)
theorem OrderOfIntervals_ev (L : List Iv) (hl : L.length ≤ 1048576) : Ev (fun k => impl_OrderOfIntervals.f k L) (ofIv L) := by
  unfold impl_OrderOfIntervals.f ofIv
  refine Ev.bind (AreIntervals_ev L hl) ?_
  cases h : ivOk L with
  | false => simp only [Bool.false_eq_true, if_false]; exact Ev.now _
  | true =>
    have := (ivOk_iff.1 h).2
    simp only [if_true]
    exact Ev.bind (orderOf_ev L (by omega)) (Ev.now _)
theorem sOrderOfIntervals_ev (L : List Iv) (hl : L.length ≤ 1048576) : Ev (fun k => spec_OrderOfIntervals.f k L) (ofIv L) := by
  unfold spec_OrderOfIntervals.f ofIv
  refine Ev.bind (ivGood_ev L hl) ?_
  cases h : ivOk L with
  | false => simp only [Bool.false_eq_true, if_false]; exact Ev.now _
  | true =>
    have := (ivOk_iff.1 h).2
    simp only [if_true]
    exact Ev.bind (ivOrder_ev L (by omega)) (Ev.now _)
theorem ivR_B {L : List Iv} (i j : Nat) : B (ivR L) i j = true ↔ i < L.length ∧ j < L.length ∧ Rt L i < Lf L j := by
  unfold ivR
  rw [relL_B, Bool.and_eq_true, Bool.and_eq_true, decide_eq_true_iff, decide_eq_true_iff, decide_eq_true_iff]
theorem ivR_ord {L : List Iv} (h : ivOk L = true) : Ord L.length (ivR L) where
  toRel := relL_rel _ (ivOk_iff.1 h).2 _
  irr := fun i => by
    cases hb : B (ivR L) i i with
    | false => rfl
    | true =>
      obtain ⟨hi, _, hlt⟩ := (ivR_B i i).1 hb
      have := (ivOk_iff.1 h).1 i hi
      omega
  trans := fun i j k h1 h2 => by
    rw [ivR_B] at *
    have := (ivOk_iff.1 h).1 j h1.2.1
    exact ⟨h1.1, h2.2.1, by omega⟩
theorem ivR_22 {L : List Iv} : no22 L.length (ivR L) = true := by
  rw [no22_iff]
  intro a ha b hb c hc d hd
  cases hh : hit22 (ivR L) a b c d with
  | false => rfl
  | true =>
    unfold hit22 at hh
    rw [Bool.and_eq_true, Bool.and_eq_true, Bool.and_eq_true, Bool.not_eq_true', Bool.not_eq_true', ivR_B, ivR_B] at hh
    obtain ⟨h1, h2, h3, h4⟩ := hh
    have n3 : ¬ (c < L.length ∧ b < L.length ∧ Rt L c < Lf L b) := fun h => by rw [(ivR_B c b).2 h] at h3; cases h3
    have n4 : ¬ (a < L.length ∧ d < L.length ∧ Rt L a < Lf L d) := fun h => by rw [(ivR_B a d).2 h] at h4; cases h4
    omega
theorem ivR_int {L : List Iv} (h : ivOk L = true) : isInt (L.length : Int) (ivR L) = true := by
  unfold isInt
  rw [isOrd_iff.2 ⟨_, rfl, ivR_ord h⟩, Bool.true_and, Int.toNat_natCast]
  exact ivR_22
theorem ivRefuses_eq {n : Nat} {l : List Int} (h : Rel n l) (a b c d : Nat) (ha : a < n) (hb : b < n) (hc : c < n) (hd : d < n) : spec_ivRefuses.f (n : Int) l (a : Int) (b : Int) (c : Int) (d : Int) = some (hit22 l a b c d) := by
  have hn := h.le
  unfold spec_ivRefuses.f hit22
  have e : ∀ x y, (row l x).testBit y = B l x y := fun _ _ => rfl
  simp only [if_pos (show (0 : Int) ≤ (a : Int) by omega), if_pos (show (0 : Int) ≤ (c : Int) by omega), h.len, if_pos (show (a : Int) < (n : Int) by omega), if_pos (show (c : Int) < (n : Int) by omega), h.rd, orHas_eq _ b (by omega), orHas_eq _ d (by omega), Option.bind_some, e]
  cases B l a b <;> cases B l c d <;> cases B l c b <;> cases B l a d <;> rfl
theorem ivTwoTwo_ev {n : Nat} {l : List Int} (h : Rel n l) : EvP (fun k => spec_ivTwoTwo.f k (n : Int) l) (fun r => r.2 = false) (∀ a, a < n → ∀ b, b < n → ∀ c, c < n → ∀ d, d < n → hit22 l a b c d = false) := by
  have hn := h.le
  unfold spec_ivTwoTwo.f
  refine EvP.iff (EvP.loop (fun a k => spec_ivTwoTwo.l0 k (a : Int) (n : Int) l) n (fun a => ∀ b, b < n → ∀ c, c < n → ∀ d, d < n → hit22 l a b c d = false) True ?_ ?_) (by rw [and_true])
  · intro a T ha next
    refine EvP.step (fun _ => rfl) ?_
    simp only [spec_ivTwoTwo.l0, if_pos (show (a : Int) < (n : Int) by omega)]
    refine EvP.loop (fun b k => spec_ivTwoTwo.l1 k (a : Int) (b : Int) (n : Int) l) n (fun b => ∀ c, c < n → ∀ d, d < n → hit22 l a b c d = false) T ?_ ?_
    · intro b T hb next
      refine EvP.step (fun _ => rfl) ?_
      simp only [spec_ivTwoTwo.l1, if_pos (show (b : Int) < (n : Int) by omega)]
      refine EvP.loop (fun c k => spec_ivTwoTwo.l2 k (a : Int) (b : Int) (c : Int) (n : Int) l) n (fun c => ∀ d, d < n → hit22 l a b c d = false) T ?_ ?_
      · intro c T hc next
        refine EvP.step (fun _ => rfl) ?_
        simp only [spec_ivTwoTwo.l2, if_pos (show (c : Int) < (n : Int) by omega)]
        refine EvP.loop (fun d k => spec_ivTwoTwo.l3 k (a : Int) (b : Int) (c : Int) (d : Int) (n : Int) l) n (fun d => hit22 l a b c d = false) T ?_ ?_
        · intro d T hd next
          refine EvP.step (fun _ => rfl) ?_
          simp only [spec_ivTwoTwo.l3, if_pos (show (d : Int) < (n : Int) by omega), ivRefuses_eq h a b c d ha hb hc hd, Option.bind_some, next64 d n hd (by omega)]
          cases hh : hit22 l a b c d with
          | false => simp only [Bool.false_eq_true, if_false]; exact EvP.iff next (by simp)
          | true => simp only [if_true]; exact EvP.now (by simp)
        · refine EvP.step (fun _ => rfl) ?_
          simp only [spec_ivTwoTwo.l3, if_neg (show ¬ (n : Int) < (n : Int) by omega), next64 c n hc (by omega)]
          exact next
      · refine EvP.step (fun _ => rfl) ?_
        simp only [spec_ivTwoTwo.l2, if_neg (show ¬ (n : Int) < (n : Int) by omega), next64 b n hb (by omega)]
        exact next
    · refine EvP.step (fun _ => rfl) ?_
      simp only [spec_ivTwoTwo.l1, if_neg (show ¬ (n : Int) < (n : Int) by omega), next64 a n ha (by omega)]
      exact next
  · refine EvP.step (fun _ => rfl) ?_
    simp only [spec_ivTwoTwo.l0, if_neg (show ¬ (n : Int) < (n : Int) by omega)]
    exact EvP.now (by simp)
theorem ivGoodOrder_ev (n : Int) (l : List Int) (hl : l.length ≤ 140737488355328) : Ev (fun k => spec_ivGoodOrder.f k n l) (isInt n l) := by
  unfold spec_ivGoodOrder.f isInt spec_ivIs.f
  refine Ev.bind (orGood_ev n l hl) ?_
  cases ho : isOrd n l with
  | false => simp only [Bool.false_eq_true, if_false, Bool.false_and]; exact Ev.now _
  | true =>
    obtain ⟨n, rfl, o⟩ := isOrd_iff.1 ho
    simp only [if_true, Bool.true_and, Int.toNat_natCast]
    obtain ⟨r, hr, e⟩ := ivTwoTwo_ev o.toRel
    refine Ev.bind (a := !r.2) (Ev.bind hr (Ev.now _)) (Ev.to (Ev.now _) ?_)
    rw [Bool.eq_iff_iff, Bool.not_eq_true', no22_iff]
    exact e
theorem ivLevels_ev {n : Nat} {l : List Int} (h : Rel n l) : Ev (fun k => spec_ivLevels.f k (n : Int) l) (levelsL n (mir n l)) := by
  have hn := h.le
  have hm := mir_rel h
  have hd := dif_length_le (mir n l)
  rw [hm.len] at hd
  have hrow : ∀ i, i < n → row (mir n l) i = setOf n fun j => B l j i := fun i hi => relL_row n _ i hi
  unfold spec_ivLevels.f
  rw [h.len]
  have second : Ev (fun k => spec_ivLevels.l1 k (dif (mir n l)) ([] : List Int) (n : Int) 0 (n : Int) l) (levelsL n (mir n l)) := by
    refine Ev.up (fun j k => spec_ivLevels.l1 k (dif (mir n l)) ((List.range j).map fun j => ((level (dif (mir n l)) (row (mir n l) j) : Nat) : Int)) (n : Int) (j : Int) (n : Int) l) n ?_ ?_
    · intro j hj next
      refine Ev.step (fun _ => rfl) ?_
      simp only [spec_ivLevels.l1, if_pos (show (j : Int) < (n : Int) by omega)]
      refine Ev.up (fun q k => spec_ivLevels.l2 k (dif (mir n l)) ((List.range j).map fun j => ((level (dif (mir n l)) (row (mir n l) j) : Nat) : Int)) (j : Int) ((level ((dif (mir n l)).take q) (row (mir n l) j) : Nat) : Int) (n : Int) (j : Int) (dif (mir n l)) ((dif (mir n l)).length : Int) (q : Int) (n : Int) l) (dif (mir n l)).length ?_ ?_
      · intro q hq next
        obtain ⟨i, hi, hs⟩ : ∃ i, i < n ∧ (dif (mir n l)).getD q 0 = ((row (mir n l) i : Nat) : Int) := by
          have hmem : (dif (mir n l)).getD q 0 ∈ dif (mir n l) := by simp [hq]
          rw [mem_dif] at hmem
          rw [hm.rows] at hmem
          obtain ⟨i, hi, e⟩ := List.mem_map.1 hmem
          exact ⟨i, List.mem_range.1 hi, by rw [← hm.rows] at e; exact e.symm⟩
        have hlv := level_le ((dif (mir n l)).take q) (row (mir n l) j)
        rw [List.length_take] at hlv
        rw [take_next q hq, level_snoc, hs, Int.toNat_natCast] at next
        refine Ev.step (fun _ => rfl) ?_
        simp only [spec_ivLevels.l2, if_pos (show (q : Int) < ((dif (mir n l)).length : Int) by omega), if_pos (show (0 : Int) ≤ (q : Int) by omega), rd_nat, hs, next64 q _ hq (by omega)]
        refine Ev.bind (orBelow_ev h _ j (by omega)) ?_
        rw [← hrow j hj]
        by_cases c : row (mir n l) i = row (mir n l) j
        · rw [if_neg (fun h => h.1 (by omega))] at next
          simp only [if_pos (show ((row (mir n l) i : Nat) : Int) = ((row (mir n l) j : Nat) : Int) by omega)]
          exact next
        · simp only [if_neg (show ¬ ((row (mir n l) i : Nat) : Int) = ((row (mir n l) j : Nat) : Int) by omega)]
          refine Ev.bind (orBelow_ev h _ j (by omega)) ?_
          rw [← hrow j hj, andNot_i64 _ _ (hm.row_62 i) (hm.row_62 j)]
          by_cases c2 : diff (row (mir n l) i) (row (mir n l) j) = 0
          · rw [if_pos ⟨by omega, c2⟩] at next
            simp only [if_pos (show ((diff (row (mir n l) i) (row (mir n l) j) : Nat) : Int) = 0 by omega), next64 (level ((dif (mir n l)).take q) (row (mir n l) j)) 1048576 (by omega) (by omega)]
            exact next
          · rw [if_neg (fun h => c2 h.2)] at next
            simp only [if_neg (show ¬ ((diff (row (mir n l) i) (row (mir n l) j) : Nat) : Int) = 0 by omega)]
            exact next
      · refine Ev.step (fun _ => rfl) ?_
        simp only [spec_ivLevels.l2, if_neg (show ¬ ((dif (mir n l)).length : Int) < ((dif (mir n l)).length : Int) by omega), List.length_map, List.length_range, if_pos (show j < 17592186044416 by omega), List.take_length, next64 j n hj (by omega)]
        simpa [List.range_succ] using next
    · refine Ev.step (fun _ => rfl) ?_
      simp only [spec_ivLevels.l1, if_neg (show ¬ (n : Int) < (n : Int) by omega)]
      exact Ev.now _
  have first : Ev (fun k => spec_ivLevels.l0 k (dif ((mir n l).take 0)) (n : Int) ((0 : Nat) : Int) (n : Int) l) (levelsL n (mir n l)) := by
    refine Ev.up (fun i k => spec_ivLevels.l0 k (dif ((mir n l).take i)) (n : Int) (i : Int) (n : Int) l) n ?_ ?_
    · intro i hi next
      have hd2 := dif_length_le ((mir n l).take i)
      rw [List.length_take] at hd2
      refine Ev.step (fun _ => rfl) ?_
      simp only [spec_ivLevels.l0, if_pos (show (i : Int) < (n : Int) by omega)]
      refine Ev.bind (orBelow_ev h _ i (by omega)) ?_
      refine Ev.bind (l1Put_ev _ _ (by omega)) ?_
      simp only [next64 i n hi (by omega)]
      have e : dif ((mir n l).take (i + 1)) = ins ((setOf n fun j => B l j i : Nat) : Int) (dif ((mir n l).take i)) := by
        rw [take_next i (by rw [hm.len]; exact hi), hm.getD, hrow i hi]
        unfold dif
        rw [List.foldl_append]
        rfl
      rw [e] at next
      exact next
    · refine Ev.step (fun _ => rfl) ?_
      simp only [spec_ivLevels.l0, if_neg (show ¬ (n : Int) < (n : Int) by omega), h.len]
      rw [show (mir n l).take n = mir n l by rw [List.take_of_length_le]; rw [hm.len]; exact Nat.le_refl _]
      exact second
  exact first
def LV (n : Nat) (l : List Int) (i : Nat) : Nat := level (dif (mir n l)) (row (mir n l) i)
theorem levelsL_rd {n : Nat} {l : List Int} (i : Nat) (hi : i < n) : rd (levelsL n (mir n l)) (i : Int) = ((LV n l i : Nat) : Int) := by
  rw [rd_nat]
  simp [levelsL, LV, hi]
def rgt (n : Nat) (l : List Int) (i : Nat) : Nat → Int
  | 0 => ((LV n l i : Nat) : Int)
  | j + 1 => if B l i j then rgt n l i j else mx (rgt n l i j) ((LV n l j : Nat) : Int)
def endsL (n : Nat) (l : List Int) : List Iv := (List.range n).map fun i => (⟨((LV n l i : Nat) : Int), rgt n l i n⟩ : Iv)
theorem endsL_length (n : Nat) (l : List Int) : (endsL n l).length = n := by simp [endsL]
theorem ends_ev {n : Nat} {l : List Int} (h : Rel n l) : Ev (fun k => impl_Order_ends.f k (n : Int) l) (endsL n l) := by
  have hn := h.le
  have hlen : (levelsL n (mir n l)).length = n := by simp [levelsL]
  unfold impl_Order_ends.f
  refine Ev.bind (levels_ev h) ?_
  rw [hlen]
  refine Ev.up (fun i k => impl_Order_ends.l0 k ((List.range i).map fun i => (⟨((LV n l i : Nat) : Int), rgt n l i n⟩ : Iv)) (levelsL n (mir n l)) (levelsL n (mir n l)) (n : Int) (i : Int) (n : Int) l) n ?_ ?_
  · intro i hi next
    refine Ev.step (fun _ => rfl) ?_
    simp only [impl_Order_ends.l0, if_pos (show (i : Int) < (n : Int) by omega), if_pos (show (0 : Int) ≤ (i : Int) by omega), hlen, levelsL_rd i hi]
    refine Ev.up (fun j k => impl_Order_ends.l1 k ((List.range i).map fun i => (⟨((LV n l i : Nat) : Int), rgt n l i n⟩ : Iv)) (levelsL n (mir n l)) (i : Int) ((LV n l i : Nat) : Int) (rgt n l i j) (levelsL n (mir n l)) (n : Int) (i : Int) (levelsL n (mir n l)) (n : Int) (j : Int) (n : Int) l) n ?_ ?_
    · intro j hj next
      refine Ev.step (fun _ => rfl) ?_
      simp only [impl_Order_ends.l1, if_pos (show (j : Int) < (n : Int) by omega), if_pos (show (0 : Int) ≤ (j : Int) by omega), hlen, better_eq h _ i j hi (by omega), Option.bind_some, levelsL_rd j hj, next64 j n hj (by omega)]
      rw [rgt] at next
      cases hb : B l i j with
      | true => rw [hb, if_pos rfl] at next; simp only [if_true]; exact next
      | false => rw [hb, if_neg (by simp)] at next; simp only [Bool.false_eq_true, if_false]; exact next
    · refine Ev.step (fun _ => rfl) ?_
      simp only [impl_Order_ends.l1, if_neg (show ¬ (n : Int) < (n : Int) by omega), List.length_map, List.length_range, if_pos (show i < 8796093022208 by omega), next64 i n hi (by omega)]
      simpa [List.range_succ] using next
  · refine Ev.step (fun _ => rfl) ?_
    simp only [impl_Order_ends.l0, if_neg (show ¬ (n : Int) < (n : Int) by omega)]
    exact Ev.now _
theorem l1Most_eq (a b : Int) : spec_l1Most.f a b = some (mx a b) := by
  unfold spec_l1Most.f mx
  by_cases c : a > b
  · rw [if_pos c, if_neg (by omega)]
  · rw [if_neg c]
    by_cases c2 : a < b
    · rw [if_pos c2]
    · rw [if_neg c2, show a = b by omega]
theorem ivEnds_ev {n : Nat} {l : List Int} (h : Rel n l) : Ev (fun k => spec_ivEnds.f k (n : Int) l) (endsL n l) := by
  have hn := h.le
  have hlen : (levelsL n (mir n l)).length = n := by simp [levelsL]
  unfold spec_ivEnds.f
  refine Ev.bind (ivLevels_ev h) ?_
  rw [hlen]
  refine Ev.up (fun i k => spec_ivEnds.l0 k (levelsL n (mir n l)) ((List.range i).map fun i => (⟨((LV n l i : Nat) : Int), rgt n l i n⟩ : Iv)) (levelsL n (mir n l)) (n : Int) (i : Int) (n : Int) l) n ?_ ?_
  · intro i hi next
    refine Ev.step (fun _ => rfl) ?_
    simp only [spec_ivEnds.l0, if_pos (show (i : Int) < (n : Int) by omega), if_pos (show (0 : Int) ≤ (i : Int) by omega), hlen, levelsL_rd i hi]
    refine Ev.up (fun j k => spec_ivEnds.l1 k (levelsL n (mir n l)) ((List.range i).map fun i => (⟨((LV n l i : Nat) : Int), rgt n l i n⟩ : Iv)) (i : Int) (levelsL n (mir n l)) (n : Int) (i : Int) (levelsL n (mir n l)) (n : Int) (j : Int) (n : Int) l ((LV n l i : Nat) : Int) (rgt n l i j)) n ?_ ?_
    · intro j hj next
      refine Ev.step (fun _ => rfl) ?_
      simp only [spec_ivEnds.l1, if_pos (show (j : Int) < (n : Int) by omega), if_pos (show (0 : Int) ≤ (j : Int) by omega), if_pos (show (0 : Int) ≤ (i : Int) by omega), if_pos (show (i : Int) < (n : Int) by omega), hlen, h.len, h.rd, orHas_eq _ j (by omega), Option.bind_some, levelsL_rd j hj, l1Most_eq, next64 j n hj (by omega)]
      rw [show (row l i).testBit j = B l i j from rfl]
      rw [rgt] at next
      cases hb : B l i j with
      | true => rw [hb, if_pos rfl] at next; simp only [if_true]; exact next
      | false => rw [hb, if_neg (by simp)] at next; simp only [Bool.false_eq_true, if_false]; exact next
    · refine Ev.step (fun _ => rfl) ?_
      simp only [spec_ivEnds.l1, if_neg (show ¬ (n : Int) < (n : Int) by omega), List.length_map, List.length_range, if_pos (show i < 8796093022208 by omega), next64 i n hi (by omega)]
      simpa [List.range_succ] using next
  · refine Ev.step (fun _ => rfl) ?_
    simp only [spec_ivEnds.l0, if_neg (show ¬ (n : Int) < (n : Int) by omega)]
    exact Ev.now _
def endsOf (n : Int) (l : List Int) : List Iv × Bool := if isInt n l then (endsL n.toNat l, true) else ([], false)
theorem isInt_ord {n : Int} {l : List Int} (h : isInt n l = true) : isOrd n l = true := by
  unfold isInt at h
  rw [Bool.and_eq_true] at h
  exact h.1
theorem EndsOf_ev (n : Int) (l : List Int) (hl : l.length ≤ 140737488355328) : Ev (fun k => impl_EndsOf.f k n l) (endsOf n l) := by
  unfold impl_EndsOf.f endsOf
  refine Ev.bind (isInterval_ev n l hl) ?_
  cases hs : isInt n l with
  | false => simp only [Bool.false_eq_true, if_false]; exact Ev.now _
  | true =>
    obtain ⟨n, rfl, o⟩ := isOrd_iff.1 (isInt_ord hs)
    simp only [if_true, Int.toNat_natCast]
    exact Ev.bind (ends_ev o.toRel) (Ev.now _)
theorem sEndsOf_ev (n : Int) (l : List Int) (hl : l.length ≤ 140737488355328) : Ev (fun k => spec_EndsOf.f k n l) (endsOf n l) := by
  unfold spec_EndsOf.f endsOf
  refine Ev.bind (ivGoodOrder_ev n l hl) ?_
  cases hs : isInt n l with
  | false => simp only [Bool.false_eq_true, if_false]; exact Ev.now _
  | true =>
    obtain ⟨n, rfl, o⟩ := isOrd_iff.1 (isInt_ord hs)
    simp only [if_true, Int.toNat_natCast]
    exact Ev.bind (ivEnds_ev o.toRel) (Ev.now _)
section
variable {n : Nat} {l : List Int}
theorem LV_rank (h : Rel n l) (h22 : no22 n l = true) (i : Nat) (hi : i < n) : LV n l i = rank (mir n l) ((row (mir n l) i : Nat) : Int) := by
  have hm := mir_rel h
  have hbit : ∀ a x, (row (mir n l) a).testBit x = B l x a := fun a x => mir_B h a x
  have h22' : ∀ a b c d, hit22 l a b c d = false := by
    intro a b c d
    cases hc : hit22 l a b c d with
    | false => rfl
    | true =>
      have hc' := hc
      unfold hit22 at hc'
      rw [Bool.and_eq_true, Bool.and_eq_true] at hc'
      rw [no22_iff.1 h22 a (h.B_lt' hc'.1) b (h.B_lt hc'.1) c (h.B_lt' hc'.2.1) d (h.B_lt hc'.2.1)] at hc
      cases hc
  have := levels_rank n (row (mir n l)) (fun i => ((row (mir n l) i : Nat) : Int)) ?_ ?_ i hi
  · rw [← hm.rows] at this
    exact this
  · intro a b _ _ hab
    refine ⟨?_, by omega⟩
    refine Classical.byContradiction fun hne => ?_
    obtain ⟨x, hx1, hx2⟩ : ∃ x, (row (mir n l) a).testBit x = true ∧ (row (mir n l) b).testBit x = false := by
      refine Classical.byContradiction fun hno => hne ((diff_zero _ _).2 fun x hx => ?_)
      cases hb : (row (mir n l) b).testBit x with
      | true => rfl
      | false => exact (hno ⟨x, hx, hb⟩).elim
    rw [hbit] at hx1 hx2
    have hsub := semi_below h22' hx1 hx2
    have : diff (row (mir n l) b) (row (mir n l) a) = 0 := by
      rw [diff_zero]
      intro k hk
      rw [hbit] at hk ⊢
      exact hsub k hk
    have := diff_le this
    omega
  · intro a b _ _ hab
    omega
theorem mir_mem (h : Rel n l) (i : Nat) (hi : i < n) : ((row (mir n l) i : Nat) : Int) ∈ mir n l := by
  have hm := mir_rel h
  rw [← hm.getD]
  have : i < (mir n l).length := by rw [hm.len]; exact hi
  simp [this]
theorem mir_of_mem (h : Rel n l) {z : Int} (hz : z ∈ mir n l) : ∃ k, k < n ∧ z = ((row (mir n l) k : Nat) : Int) := by
  rw [(mir_rel h).rows] at hz
  obtain ⟨k, hk, e⟩ := List.mem_map.1 hz
  exact ⟨k, List.mem_range.1 hk, e.symm⟩
theorem LV_lt (h : Rel n l) (h22 : no22 n l = true) (i j : Nat) (hi : i < n) (hj : j < n) : LV n l i < LV n l j ↔ row (mir n l) i < row (mir n l) j := by
  rw [LV_rank h h22 i hi, LV_rank h h22 j hj, rank_lt_iff (mir_mem h i hi) (mir_mem h j hj)]
  omega
theorem LV_of (h : Rel n l) (h22 : no22 n l = true) (i j x : Nat) (hi : i < n) (hj : j < n) (h1 : B l x j = true) (h2 : B l x i = false) : LV n l i < LV n l j := by
  have hbit : ∀ a x, (row (mir n l) a).testBit x = B l x a := fun a x => mir_B h a x
  refine Classical.byContradiction fun hno => ?_
  have hle : LV n l j ≤ LV n l i := by omega
  have h3 : row (mir n l) j ≤ row (mir n l) i := by
    have := LV_lt h h22 i j hi hj
    omega
  have h22' : ∀ k, B l k i = true → B l k j = true := by
    intro k hk
    cases hb : B l k j with
    | true => rfl
    | false =>
      have := no22_iff.1 h22 k (h.B_lt' hk) i hi x (h.B_lt' h1) j hj
      simp [hit22, h1, h2, hk, hb] at this
  have h4 : diff (row (mir n l) i) (row (mir n l) j) = 0 := by
    rw [diff_zero]
    intro k hk
    rw [hbit] at hk ⊢
    exact h22' k hk
  have h5 := diff_le h4
  have h6 : row (mir n l) i = row (mir n l) j := by omega
  have := hbit i x
  rw [h6, hbit, h1, h2] at this
  cases this
theorem mx_lt (a b y : Int) : mx a b < y ↔ a < y ∧ b < y := by
  unfold mx
  split <;> omega
theorem rgt_lt (i j : Nat) (y : Int) : rgt n l i j < y ↔ ((LV n l i : Nat) : Int) < y ∧ ∀ k, k < j → B l i k = false → ((LV n l k : Nat) : Int) < y := by
  induction j with
  | zero => simp [rgt]
  | succ j ih =>
    rw [rgt]
    cases hb : B l i j with
    | true =>
      rw [if_pos rfl, ih]
      constructor
      · rintro ⟨h1, h2⟩
        refine ⟨h1, fun k hk hbk => ?_⟩
        by_cases e : k = j
        · rw [e, hb] at hbk; cases hbk
        · exact h2 k (by omega) hbk
      · rintro ⟨h1, h2⟩
        exact ⟨h1, fun k hk => h2 k (by omega)⟩
    | false =>
      rw [if_neg (by simp), mx_lt, ih]
      constructor
      · rintro ⟨⟨h1, h2⟩, h3⟩
        refine ⟨h1, fun k hk hbk => ?_⟩
        by_cases e : k = j
        · rw [e]; exact h3
        · exact h2 k (by omega) hbk
      · rintro ⟨h1, h2⟩
        exact ⟨⟨h1, fun k hk => h2 k (by omega)⟩, h2 j (by omega) hb⟩
theorem ends_rep (o : Ord n l) (h22 : no22 n l = true) (i j : Nat) (hi : i < n) (hj : j < n) : rgt n l i n < ((LV n l j : Nat) : Int) ↔ B l i j = true := by
  have h := o.toRel
  rw [rgt_lt]
  constructor
  · rintro ⟨_, H⟩
    cases hb : B l i j with
    | true => rfl
    | false => have := H j hj hb; omega
  · intro hb
    have key : ∀ k, k < n → B l i k = false → ((LV n l k : Nat) : Int) < ((LV n l j : Nat) : Int) := by
      intro k hk hbk
      have := LV_of h h22 k j i hk hj hb hbk
      omega
    exact ⟨key i hi (o.irr i), key⟩
theorem LV_le (h : Rel n l) (i : Nat) : LV n l i ≤ 10 := by
  have := level_le (dif (mir n l)) (row (mir n l) i)
  have h2 := dif_length_le (mir n l)
  have h3 := (mir_rel h).len
  have h4 := h.le
  unfold LV
  omega
theorem endsL_f0 (i : Nat) (hi : i < n) : Lf (endsL n l) i = ((LV n l i : Nat) : Int) := by simp [Lf, endsL, hi]
theorem endsL_f1 (i : Nat) (hi : i < n) : Rt (endsL n l) i = rgt n l i n := by simp [Rt, endsL, hi]
theorem endsL_ok (h : Rel n l) : ivOk (endsL n l) = true := by
  rw [ivOk_iff, endsL_length]
  refine ⟨fun i hi => ?_, h.le⟩
  rw [endsL_f0 i hi, endsL_f1 i hi]
  have h1 : ¬ rgt n l i n < ((LV n l i : Nat) : Int) := fun hlt => by
    have := ((rgt_lt i n _).1 hlt).1
    omega
  have h2 : rgt n l i n < 11 := (rgt_lt i n 11).2 ⟨by have := LV_le h i; omega, fun k _ _ => by have := LV_le h k; omega⟩
  omega
theorem ivR_ends (o : Ord n l) (h22 : no22 n l = true) : ivR (endsL n l) = l := by
  have hr : Rel n (ivR (endsL n l)) := by
    have := relL_rel n o.le fun i j => decide (Rt (endsL n l) i < Lf (endsL n l) j)
    unfold ivR
    rw [endsL_length]
    exact this
  refine hr.ext o.toRel fun i j hi hj => ?_
  rw [Bool.eq_iff_iff, ivR_B, endsL_length, endsL_f1 i hi, endsL_f0 j hj, ends_rep o h22 i j hi hj]
  exact ⟨fun h => h.2.2, fun h => ⟨hi, hj, h⟩⟩
end
theorem LV_least {L : List Iv} (h : ivOk L = true) (c : Int) (hc : ∀ i, i < L.length → c ≤ Lf L i) : ∀ m i, i < L.length → LV L.length (ivR L) i = m → (m : Int) ≤ Lf L i - c := by
  have o := ivR_ord h
  have hR := o.toRel
  intro m
  induction m with
  | zero => intro i hi _; have := hc i hi; omega
  | succ m ih =>
    intro i hi hm
    have hr := LV_rank hR ivR_22 i hi
    rw [hm] at hr
    obtain ⟨hk, _⟩ := rank_lt (mir_mem hR i hi)
    have hz := rank_at (mir L.length (ivR L)) m (by omega)
    have hmem : (dif (mir L.length (ivR L)))[m]'(by omega) ∈ mir L.length (ivR L) := (mem_dif _ _).1 (List.getElem_mem _)
    obtain ⟨k, hkn, e⟩ := mir_of_mem hR hmem
    rw [e, ← LV_rank hR ivR_22 k hkn] at hz
    have h1 := ih k hkn hz
    have h2 : LV L.length (ivR L) k < LV L.length (ivR L) i := by omega
    have h3 := (LV_lt hR ivR_22 k i hkn hi).1 h2
    have h4 : Lf L k < Lf L i := by
      refine Classical.byContradiction fun hno => ?_
      have : diff (row (mir L.length (ivR L)) i) (row (mir L.length (ivR L)) k) = 0 := by
        rw [diff_zero]
        intro x hx
        have hx : B (mir L.length (ivR L)) i x = true := hx
        show B (mir L.length (ivR L)) k x = true
        rw [mir_B hR, ivR_B] at hx ⊢
        exact ⟨hx.1, hkn, by omega⟩
      have := diff_le this
      omega
    omega
theorem ends_least {L : List Iv} (h : ivOk L = true) (c : Int) (hc : ∀ i, i < L.length → c ≤ Lf L i) (i : Nat) (hi : i < L.length) : ((LV L.length (ivR L) i : Nat) : Int) ≤ Lf L i - c ∧ rgt L.length (ivR L) i L.length ≤ Rt L i - c := by
  have h0 := LV_least h c hc _ i hi rfl
  refine ⟨h0, ?_⟩
  have hb := (ivOk_iff.1 h).1 i hi
  have : rgt L.length (ivR L) i L.length < Rt L i - c + 1 := by
    rw [rgt_lt]
    refine ⟨by omega, fun k hk hbk => ?_⟩
    have h1 := LV_least h c hc _ k hk rfl
    have : ¬ (i < L.length ∧ k < L.length ∧ Rt L i < Lf L k) := fun hh => by rw [(ivR_B i k).2 hh] at hbk; cases hbk
    omega
  omega
end Go.Proofs.YtimjblnglhmakaaDoor.M
namespace Go.Proofs.YtimjblnglhmakaaDoor.M
open Go.RowKit Go.Proofs.YtimjblnglhmakaaDoorW.PrintMore Go.Proofs.YtimjblnglhmakaaDoorW.PrintLast Go.Proofs.YtimjblnglhmakaaDoorW.PrintWords Go.Proofs.YtimjblnglhmakaaDoor.P
set_option maxRecDepth 4000
def ivEq (L M : List Iv) (i : Nat) : Bool := decide (Lf L i = Lf M i) && decide (Rt L i = Rt M i)
def sameIv (L M : List Iv) : Bool := decide (L.length = M.length) && allB L.length (ivEq L M)
theorem sameIv_refl (L : List Iv) : sameIv L L = true := by
  unfold sameIv ivEq
  rw [decide_eq_true rfl, Bool.true_and, allB_iff]
  intro i _
  simp
theorem sameIv_comm (L M : List Iv) : sameIv L M = sameIv M L := by
  unfold sameIv
  by_cases h : L.length = M.length
  · rw [decide_eq_true h, decide_eq_true h.symm, h]
    simp only [Bool.true_and]
    exact allB_congr fun i _ => by unfold ivEq; simp only [eq_comm]
  · rw [decide_eq_false h, decide_eq_false (fun e => h e.symm)]
    rfl
theorem ne_test (a b c d : Int) : ((!(a == b)) || (!(c == d))) = !(decide (a = b) && decide (c = d)) := by
  by_cases h1 : a = b
  · by_cases h2 : c = d
    · simp [h1, h2]
    · simp [h1, h2]
  · simp [h1]
theorem pSameIntervals_ev (L M : List Iv) (hl : L.length ≤ 1048576) : Ev (fun k => laws_pSameIntervals.f k L M) (sameIv L M) := by
  unfold laws_pSameIntervals.f sameIv
  by_cases h : (L.length : Int) = (M.length : Int)
  · simp only [if_pos h]
    rw [decide_eq_true (show L.length = M.length by omega), Bool.true_and]
    refine Ev.all (fun i k => laws_pSameIntervals.l0 k L M (L.length : Int) (i : Int)) L.length (ivEq L M) ?_ ?_ ?_
    · intro i r hi hp next
      refine Ev.step (fun _ => rfl) ?_
      simp only [laws_pSameIntervals.l0, if_pos (show (i : Int) < (L.length : Int) by omega), if_pos (show (0 : Int) ≤ (i : Int) by omega), if_pos (show (i : Int) < (M.length : Int) by omega), rd_iv0, rd_iv1, ne_test, show (decide (Lf L i = Lf M i) && decide (Rt L i = Rt M i)) = true from hp, Bool.not_true, Bool.false_eq_true, if_false, next64 i L.length hi (by omega)]
      exact next
    · intro i hi hp
      refine Ev.step (fun _ => rfl) ?_
      simp only [laws_pSameIntervals.l0, if_pos (show (i : Int) < (L.length : Int) by omega), if_pos (show (0 : Int) ≤ (i : Int) by omega), if_pos (show (i : Int) < (M.length : Int) by omega), rd_iv0, rd_iv1, ne_test, show (decide (Lf L i = Lf M i) && decide (Rt L i = Rt M i)) = false from hp, Bool.not_false, if_true]
      exact Ev.now _
    · refine Ev.step (fun _ => rfl) ?_
      simp only [laws_pSameIntervals.l0, if_neg (show ¬ (L.length : Int) < (L.length : Int) by omega)]
      exact Ev.now _
  · simp only [if_neg h]
    exact Ev.to (Ev.now _) (by rw [decide_eq_false (fun e => h (by rw [e]))]; rfl)
theorem equalIv_ev (L M : List Iv) (hl : L.length ≤ 1048576) : Ev (fun k => impl_Interval.f k L M) (sameIv L M) := by
  unfold impl_Interval.f sameIv
  by_cases h : (L.length : Int) = (M.length : Int)
  · simp only [if_pos h]
    rw [decide_eq_true (show L.length = M.length by omega), Bool.true_and]
    refine Ev.all (fun i k => impl_Interval.l0 k L M (L.length : Int) (i : Int)) L.length (ivEq L M) ?_ ?_ ?_
    · intro i r hi hp next
      refine Ev.step (fun _ => rfl) ?_
      simp only [impl_Interval.l0, if_pos (show (i : Int) < (L.length : Int) by omega), if_pos (show (0 : Int) ≤ (i : Int) by omega), if_pos (show (i : Int) < (M.length : Int) by omega), rd_iv0, rd_iv1, ne_test, show (decide (Lf L i = Lf M i) && decide (Rt L i = Rt M i)) = true from hp, Bool.not_true, Bool.false_eq_true, if_false, next64 i L.length hi (by omega)]
      exact next
    · intro i hi hp
      refine Ev.step (fun _ => rfl) ?_
      simp only [impl_Interval.l0, if_pos (show (i : Int) < (L.length : Int) by omega), if_pos (show (0 : Int) ≤ (i : Int) by omega), if_pos (show (i : Int) < (M.length : Int) by omega), rd_iv0, rd_iv1, ne_test, show (decide (Lf L i = Lf M i) && decide (Rt L i = Rt M i)) = false from hp, Bool.not_false, if_true]
      exact Ev.now _
    · refine Ev.step (fun _ => rfl) ?_
      simp only [impl_Interval.l0, if_neg (show ¬ (L.length : Int) < (L.length : Int) by omega)]
      exact Ev.now _
  · simp only [if_neg h]
    exact Ev.to (Ev.now _) (by rw [decide_eq_false (fun e => h (by rw [e]))]; rfl)
theorem equalI_same (l : List Int) (hl : l.length ≤ 140737488355328) : Ev (fun k => slices_Equal_int_int.f k l l) true := by
  unfold slices_Equal_int_int.f
  simp only [if_true]
  refine Ev.up (fun i k => slices_Equal_int_int.l0 k l l (l.length : Int) (i : Int)) l.length ?_ ?_
  · intro i hi next
    refine Ev.step (fun _ => rfl) ?_
    simp only [slices_Equal_int_int.l0, if_pos (show (i : Int) < (l.length : Int) by omega), if_pos (show (0 : Int) ≤ (i : Int) by omega), if_true, next64 i l.length hi (by omega)]
    exact next
  · refine Ev.step (fun _ => rfl) ?_
    simp only [slices_Equal_int_int.l0, if_neg (show ¬ (l.length : Int) < (l.length : Int) by omega)]
    exact Ev.now _
theorem DoRepresent_yes {n : Nat} {l : List Int} (o : Ord n l) (L : List Iv) (hL : ivOk L = true) (hlen : L.length = n) (he : ivR L = l) : Ev (fun k => impl_DoRepresent.f k L (n : Int) l) (true, true) := by
  have hn := o.le
  unfold impl_DoRepresent.f
  refine Ev.bind (AreIntervals_ev L (by omega)) ?_
  rw [hL]
  simp only [if_true]
  refine Ev.bind (IsOrder_ev (n : Int) l (by rw [o.len]; omega)) ?_
  rw [isOrd_iff.2 ⟨n, rfl, o⟩]
  refine Ev.step (fun _ => rfl) ?_
  simp only [impl_DoRepresent.j0, Bool.not_true, Bool.false_eq_true, if_false]
  refine Ev.bind (orderOf_ev L (by omega)) ?_
  rw [hlen, he]
  unfold impl_Order_same.f
  simp only [if_true]
  exact Ev.bind (Ev.bind (equalI_same l (by rw [o.len]; omega)) (Ev.now _)) (Ev.now _)
theorem AreLeastEnds_ev (L : List Iv) (hL : ivOk L = true) : Ev (fun k => impl_AreLeastEnds.f k L) (sameIv (endsL L.length (ivR L)) L, true) := by
  have h10 := (ivOk_iff.1 hL).2
  unfold impl_AreLeastEnds.f
  refine Ev.bind (AreIntervals_ev L (by omega)) ?_
  rw [hL]
  simp only [if_true]
  refine Ev.bind (orderOf_ev L (by omega)) ?_
  refine Ev.bind (ends_ev (ivR_ord hL).toRel) ?_
  exact Ev.bind (equalIv_ev _ _ (by rw [endsL_length]; omega)) (Ev.now _)
theorem intervals2_tot {l : List Int} (hb : By l) : Tot (fun k => spec_l1Cur_intervals.f k l 0 0 7) (fun r => r.1.length ≤ 20 ∧ 0 ≤ r.2.1 ∧ r.2.1 ≤ 200) := by
  unfold spec_l1Cur_intervals.f
  rw [show wrap64 (7 + 1) = 8 from by rw [wrap64_in _ (by omega) (by omega)]; rfl]
  refine Tot.obind (pick_ok hb 0 0 8 (by omega) (by omega)) ?_
  rintro ⟨c, p1, h1⟩ ⟨c0, c1, c2, c3⟩
  simp only at c0 c1 c2 c3
  obtain ⟨n, rfl⟩ := Int.eq_ofNat_of_zero_le c0
  have hn : n ≤ 8 := by omega
  have h0 := Tot.up (Q := fun r : List Iv × Int × Int => r.1.length ≤ 20 ∧ 0 ≤ r.2.1 ∧ r.2.1 ≤ 200) (fun i (s : List Iv × Int × Int) k => spec_l1Cur_intervals.l0 k s.1 ((n - i : Nat) : Int) l s.2.1 s.2.2) n (fun i s => s.1.length = i ∧ 0 ≤ s.2.1 ∧ s.2.1 ≤ 2 + 4 * (i : Int)) ?_ ?_ 0 (Nat.zero_le _) ([], p1, h1) ⟨rfl, by simp only; omega, by simp only; omega⟩
  · exact h0
  · rintro i ⟨z, q, g⟩ hi ⟨s1, s2, s3⟩ next
    simp only at s1 s2 s3
    refine Tot.step (fun _ => rfl) ?_
    simp only [spec_l1Cur_intervals.l0, if_pos (show ((n - i : Nat) : Int) > 0 by omega), s1, if_pos (show i < 8796093022208 by omega), show wrap64 (((n - i : Nat) : Int) - 1) = ((n - (i + 1) : Nat) : Int) by rw [wrap64_in _ (by omega) (by omega)]; omega]
    refine Tot.obind (pick_ok hb q g 8 (by omega) (by omega)) ?_
    rintro ⟨v, q2, g2⟩ ⟨v0, v1, v2, v3⟩
    simp only at v0 v1 v2 v3
    refine Tot.obind (pick_ok hb q2 g2 4 (by omega) (by omega)) ?_
    rintro ⟨u, q3, g3⟩ ⟨u0, u1, u2, u3⟩
    simp only at u0 u1 u2 u3
    exact next (_, _, _) ⟨by simp [s1], by simp only; omega, by simp only; omega⟩
  · rintro ⟨z, q, g⟩ ⟨s1, s2, s3⟩
    simp only at s1 s2 s3
    refine Tot.step (fun _ => rfl) ?_
    simp only [spec_l1Cur_intervals.l0, if_neg (show ¬ ((n - n : Nat) : Int) > 0 by omega)]
    refine Tot.obind (pick_ok hb q g 14 (by omega) (by omega)) ?_
    rintro ⟨v, q2, g2⟩ ⟨v0, v1, v2, v3⟩
    simp only at v0 v1 v2 v3
    refine Tot.ite (fun _ => ?_) (fun _ => Tot.ite (fun _ => ?_) (fun _ => Tot.now ⟨by simp only; omega, by simp only; omega, by simp only; omega⟩))
    · refine Tot.obind (among_ok hb q2 g2 _ (by simp) (by omega) (by omega)) ?_
      rintro ⟨a, q3, g3⟩ ⟨_, a1, a2⟩
      simp only at a1 a2
      refine Tot.obind (among_ok hb q3 g3 _ (by simp) (by omega) (by omega)) ?_
      rintro ⟨a', q4, g4⟩ ⟨_, b1, b2⟩
      simp only at b1 b2
      simp only [s1, if_pos (show n < 8796093022208 by omega)]
      exact Tot.now ⟨by simp [s1]; omega, by simp only; omega, by simp only; omega⟩
    · have h1 := Tot.up (Q := fun r : List Iv × Int × Int => r.1.length ≤ 20 ∧ 0 ≤ r.2.1 ∧ r.2.1 ≤ 200) (fun i (s : List Iv × Int × Int) k => spec_l1Cur_intervals.l1 k s.1 l s.2.1 s.2.2) 12 (fun i s => s.1.length = i ∧ 0 ≤ s.2.1 ∧ s.2.1 ≤ 60 + 2 * (i : Int)) ?_ ?_ 0 (Nat.zero_le _) ([], q2, g2) ⟨rfl, by simp only; omega, by simp only; omega⟩
      · exact h1
      · rintro i ⟨z, q, g⟩ hi ⟨t1, t2, t3⟩ next
        simp only at t1 t2 t3
        refine Tot.step (fun _ => rfl) ?_
        simp only [spec_l1Cur_intervals.l1, t1]
        refine Tot.obind (pick_ok hb q g 2 (by omega) (by omega)) ?_
        rintro ⟨v, q5, g5⟩ ⟨w0, w1, w2, w3⟩
        simp only at w0 w1 w2 w3
        refine Tot.ite (fun _ => ?_) (fun _ => Tot.now ⟨by simp only; omega, by simp only; omega, by simp only; omega⟩)
        simp only [if_pos (show i < 8796093022208 by omega)]
        exact next (_, _, _) ⟨by simp [t1], by simp only; omega, by simp only; omega⟩
      · rintro ⟨z, q, g⟩ ⟨t1, t2, t3⟩
        simp only at t1 t2 t3
        refine Tot.step (fun _ => rfl) ?_
        simp only [spec_l1Cur_intervals.l1, t1]
        refine Tot.obind (pick_ok hb q g 2 (by omega) (by omega)) ?_
        rintro ⟨v, q5, g5⟩ ⟨w0, w1, w2, w3⟩
        simp only at w0 w1 w2 w3
        rw [wrap64_in (10 + v) (by omega) (by omega)]
        simp only [if_neg (show ¬ ((12 : Nat) : Int) < 10 + v by omega)]
        exact Tot.now ⟨by simp only; omega, by simp only; omega, by simp only; omega⟩
theorem intervals_tot {l : List Int} (hb : By l) : Tot (fun k => spec_DrawOrderOfIntervals.f k l) (fun r => r.length ≤ 20) := by
  unfold spec_DrawOrderOfIntervals.f
  exact Tot.bind (intervals2_tot hb) (fun r hr => Tot.now hr.1)
end Go.Proofs.YtimjblnglhmakaaDoor.M
namespace Go.Proofs.YtimjblnglhmakaaDoor.Pure
open Go.RowKit Go.Proofs.YtimjblnglhmakaaDoorW.PrintMore Go.Proofs.YtimjblnglhmakaaDoorW.PrintLast Go.Proofs.YtimjblnglhmakaaDoorW.PrintWords Go.Proofs.YtimjblnglhmakaaDoor.P Go.Proofs.YtimjblnglhmakaaDoor.M
set_option maxRecDepth 4000
def lo (L : List Iv) : Nat → Int
  | 0 => 0
  | i + 1 => if Lf L i < lo L i then Lf L i else lo L i
theorem lo_le (L : List Iv) (j : Nat) : lo L j ≤ 0 ∧ ∀ i, i < j → lo L j ≤ Lf L i := by
  induction j with
  | zero => exact ⟨by simp [lo], fun i hi => by omega⟩
  | succ j ih =>
    obtain ⟨h1, h2⟩ := ih
    rw [lo]
    split
    · rename_i hc
      refine ⟨by omega, fun i hi => ?_⟩
      by_cases e : i = j
      · rw [e]; exact Int.le_refl _
      · have := h2 i (by omega); omega
    · rename_i hc
      refine ⟨h1, fun i hi => ?_⟩
      by_cases e : i = j
      · rw [e]; omega
      · exact h2 i (by omega)
theorem lo_ge {L : List Iv} (h : ivOk L = true) (j : Nat) (hj : j ≤ L.length) : -1000 ≤ lo L j := by
  induction j with
  | zero => simp [lo]
  | succ j ih =>
    have := ih (by omega)
    have := (ivOk_iff.1 h).1 j (by omega)
    rw [lo]
    split <;> omega
theorem FnEndsAreLeast : P.laws_FnEndsAreLeast.Pure := by
  intro l0 l1 _ hl0 hb _ hl1 _
  have hB := by_wf hb
  obtain ⟨L, hd, hlen⟩ := intervals_tot hB
  refine Ev.rounds (g := fun k => laws_FnEndsAreLeast.f k l0 l1) ?_
  unfold laws_FnEndsAreLeast.f
  obtain ⟨b, hbig⟩ : ∃ b, laws_big.f l0 l1 = some b := by
    unfold laws_big.f
    split
    · exact ⟨_, rfl⟩
    · exact ⟨_, rfl⟩
  rw [hbig]
  simp only [Option.bind_some]
  cases b with
  | true => simp only [if_true]; exact Ev.now _
  | false =>
  simp only [Bool.false_eq_true, if_false]
  refine Ev.bind hd ?_
  refine Ev.bind (OrderOfIntervals_ev L (by omega)) ?_
  refine Ev.bind (sOrderOfIntervals_ev L (by omega)) ?_
  simp only [bne_self_eq_false, Bool.false_eq_true, if_false]
  have hfl : (ofIv L).2.1.length ≤ 20 := by
    unfold ofIv
    split
    · simp only [ivR, relL_length]; exact hlen
    · simp
  refine Ev.bind (Ev.to (pSameOrder_ev _ _ _ _ (by omega)) (r' := true) (by simp)) ?_
  simp only [if_true]
  refine Ev.bind (AreIntervals_ev L (by omega)) ?_
  cases hL : ivOk L with
  | false =>
    simp only [ofIv, hL, Bool.false_eq_true, if_false, bne_self_eq_false]
    refine Ev.step (fun _ => rfl) ?_
    simp only [laws_FnEndsAreLeast.j0, Bool.false_eq_true, if_false]
    exact Ev.now _
  | true =>
  simp only [ofIv, hL, if_true, bne_self_eq_false]
  have o := ivR_ord hL
  have h10 := (ivOk_iff.1 hL).2
  have hR := o.toRel
  have hends : endsOf (L.length : Int) (ivR L) = (endsL L.length (ivR L), true) := by
    unfold endsOf
    rw [ivR_int hL, if_pos rfl, Int.toNat_natCast]
  have he := ivR_ends o ivR_22
  have hok := endsL_ok hR
  have hEl := endsL_length L.length (ivR L)
  have hfin : Ev (fun k => (impl_AreLeastEnds.f k L).bind fun bt => if bt.2 = true then (laws_pSameIntervals.f k L (endsL L.length (ivR L))).bind fun t => some (bt.1 == t) else some false) true := by
    refine Ev.bind (AreLeastEnds_ev L hL) ?_
    simp only [if_true]
    refine Ev.bind (pSameIntervals_ev L _ (by omega)) ?_
    refine Ev.to (Ev.now _) ?_
    rw [sameIv_comm]
    simp
  have hnext : Ev (fun k => laws_FnEndsAreLeast.j1 k L (endsL L.length (ivR L)) false) true := by
    refine Ev.step (fun _ => rfl) ?_
    simp only [laws_FnEndsAreLeast.j1, Bool.false_eq_true, if_false]
    refine Ev.up (fun i k => laws_FnEndsAreLeast.l0 k L (endsL L.length (ivR L)) (lo L i) L (L.length : Int) (i : Int)) L.length ?_ ?_
    · intro i hi next
      refine Ev.step (fun _ => rfl) ?_
      rw [lo] at next
      by_cases c : Lf L i < lo L i
      · rw [if_pos c] at next
        simp only [laws_FnEndsAreLeast.l0, if_pos (show (i : Int) < (L.length : Int) by omega), if_pos (show (0 : Int) ≤ (i : Int) by omega), rd_iv0, if_pos c, next64 i L.length hi (by omega)]
        exact next
      · rw [if_neg c] at next
        simp only [laws_FnEndsAreLeast.l0, if_pos (show (i : Int) < (L.length : Int) by omega), if_pos (show (0 : Int) ≤ (i : Int) by omega), rd_iv0, if_neg c, next64 i L.length hi (by omega)]
        exact next
    · refine Ev.step (fun _ => rfl) ?_
      simp only [laws_FnEndsAreLeast.l0, if_neg (show ¬ (L.length : Int) < (L.length : Int) by omega), hEl]
      refine Ev.up (fun i k => laws_FnEndsAreLeast.l1 k L (endsL L.length (ivR L)) (lo L L.length) (endsL L.length (ivR L)) (L.length : Int) (i : Int)) L.length ?_ ?_
      · intro i hi next
        have hl1 := lo_le L L.length
        have hl2 := lo_ge hL L.length (Nat.le_refl _)
        have hbd := (ivOk_iff.1 hL).1 i hi
        obtain ⟨g1, g2⟩ := ends_least hL (lo L L.length) hl1.2 i hi
        refine Ev.step (fun _ => rfl) ?_
        simp only [laws_FnEndsAreLeast.l1, if_pos (show (i : Int) < (L.length : Int) by omega), if_pos (show (0 : Int) ≤ (i : Int) by omega), hEl, rd_iv0, rd_iv1, endsL_f0 i hi, endsL_f1 i hi, wrap64_in (Lf L i - lo L L.length) (by omega) (by omega), wrap64_in (Rt L i - lo L L.length) (by omega) (by omega), if_neg (show ¬ ((LV L.length (ivR L) i : Nat) : Int) > Lf L i - lo L L.length by omega), if_neg (show ¬ rgt L.length (ivR L) i L.length > Rt L i - lo L L.length by omega), next64 i L.length hi (by omega)]
        exact next
      · refine Ev.step (fun _ => rfl) ?_
        simp only [laws_FnEndsAreLeast.l1, if_neg (show ¬ (L.length : Int) < (L.length : Int) by omega)]
        exact hfin
  refine Ev.step (fun _ => rfl) ?_
  simp only [laws_FnEndsAreLeast.j0, Bool.false_eq_true, if_false, if_true]
  refine Ev.bind (Ev.to (EndsOf_ev _ _ (by rw [o.len]; omega)) hends) ?_
  refine Ev.bind (Ev.to (sEndsOf_ev _ _ (by rw [o.len]; omega)) hends) ?_
  refine Ev.bind (DoRepresent_yes o _ hok hEl he) ?_
  have hle := AreLeastEnds_ev _ hok
  rw [hEl, he, sameIv_refl] at hle
  refine Ev.bind hle ?_
  simp only [if_true]
  refine Ev.bind (Ev.to (pSameIntervals_ev _ _ (by omega)) (sameIv_refl _)) ?_
  exact hnext
end Go.Proofs.YtimjblnglhmakaaDoor.Pure
namespace Go.Proofs.YtimjblnglhmakaaDoorW.PrintWords
open Go.ChangeShapes Go.WideShapes
theorem sized_ints {H : Type} {enc : TypeId × Value → H} {P : Program} {W : World} {base : Nat} {spare : Nat → Bool} {held : Bool} {t e : TypeId} {k : IntKind} {a : Option Addr} {len cap : Nat} {d : DataW H} {ps : List MemPlace} {ts : List TypeId} {ds : List (DataW H)} {j : Nat}
    (hsz : (DataW.weightsEach P ts ds).all (· ≤ reachBytes) = true) (ht : ts[j]? = some t) (hd : ds[j]? = some d) (hu : P.underlying t = some (.slice e)) (he : P.underlying e = some (.int k)) (hc : P.cellsOf e = 1) {B : Nat} (hB : P.bytesOf e = B)
    (h : DataW.Trod enc P W base spare held t (.slice a len cap) d ps) : len * B ≤ 140737488351232 := by
  obtain ⟨fuel, hf⟩ := h
  rcases open_ints hu he hc hf with ⟨hcs, _⟩ | ⟨x, l, c, zs, hcs, _, hl, _, hz, hx, _, _⟩
  · simp [Value.cells] at hcs
    obtain ⟨rfl, rfl, rfl⟩ := hcs
    simp
  · simp [Value.cells] at hcs
    obtain ⟨rfl, rfl, rfl⟩ := hcs
    obtain ⟨hx, _⟩ := Prod.mk.inj hx
    subst hx
    have z := sized_slice hsz ht hd hu
    rw [hB] at z
    have hl2 : len ≤ zs.length := by
      rw [hz]
      split
      · exact hl
      · exact Nat.le_refl _
    have h1 : (lits (H := H) k (zs.take len)).length + (lits (H := H) k (zs.drop len)).length = zs.length := by
      simp [lits]
      omega
    rw [h1] at z
    exact Nat.le_trans (Nat.mul_le_mul_right _ hl2) z
end Go.Proofs.YtimjblnglhmakaaDoorW.PrintWords
namespace Go.Proofs.YtimjblnglhmakaaDoor.fnEndsAreLeast
open Go.ChangeShapes Go.WideShapes Go.ChangeAt Go.RowKit
open Go.ChangeMaps (open_string shut_string)
open Go.Proofs.YtimjblnglhmakaaDoorW
set_option linter.unusedVariables false
theorem own : ownKnob Tryd.prog.godebug = none := by kernel_rfl
theorem laidOut : laidOutB Tryd.prog = true := by kernel_rfl
def IsRow (k : IntKind) (w : World) (a : Option Addr) (len cap : Nat) (zs : List Int) : Prop :=
  (a = none ∧ len = 0 ∧ cap = 0 ∧ zs = []) ∨
  ∃ x, a = some x ∧ len ≤ cap ∧ cap ≤ maxLen ∧ zs.length = cap ∧ (∀ i, i < zs.length → w.cell? (x.add i) = some (.int k (zs.getD i 0))) ∧ ∀ n ∈ zs, (Lit.int k n).wf = true
theorem gT : Tryd.prog.globalNamed "math/bits.deBruijn64tab" = some 1 := by kernel_rfl
theorem tT : (Tryd.prog.globals[1]?).map (·.type) = some 162 := by kernel_rfl
theorem cT : Tryd.prog.cellsOf 162 = 64 := by kernel_rfl
theorem cE : Tryd.prog.cellsOf 5 = 1 := by kernel_rfl
def tab64 : List Int := Lib.deBruijn64tab.map fun (z : Nat) => (z : Int)
theorem tab64_at : ∀ j, j < 64 → tab64.getD j 0 = ((Lib.deBruijn64tab.getD j 0 : Nat) : Int) := by decide +kernel
theorem table {W : World} (h : laidMetH Tryd.prog Rows.fnEndsAreLeastRow.laid W) : P.TabOK W := by
  rw [MakeChecks.laidMetH_plain _ _ _ (by kernel_rfl)] at h
  have h1 : laidMet Tryd.prog [("math/bits.deBruijn32tab", Rows.laid_math_bits_deBruijn32tab), ("math/bits.deBruijn64tab", Lib.tabData .u8 tab64)] W := h
  have h0 := laidMet.tail (h1)
  have ht := Lib.tabIs_of_head gT tT Tryd.underlying162 Tryd.underlying5 cE cT h0
  intro j hj
  rw [ht.cell gT j (by exact hj), tab64_at j hj]
theorem door_met (os : Os) (args : Array Value) : laidMetH Tryd.prog Rows.fnEndsAreLeastRow.laid ((World.doorLaid Tryd.prog 400 os).forCall (fun _ _ => 0) ⟨#[], args, []⟩).memory :=
  laidMetH_of_parts3 (fuel := 8) (laidMet_of_run' 8 (by kernel_rfl) (by kernel_rfl)) (by kernel_rfl) (by kernel_rfl)
set_option maxRecDepth 100000 in
theorem lifted (os : Os) (started : os.Started) (H : Type) (enc : TypeId × Value → H) :
    ReturnsInHanded {} Tryd.checked os 6 .any (fun w args => (Rows.fnEndsAreLeastSpec.pre enc Tryd.prog Tryd.f6 [] false w args ∧ laidMetH Tryd.prog Rows.fnEndsAreLeastRow.laid w) ∧ sizedMet enc Tryd.prog Tryd.f6 (OpenSpec.ofChange Rows.fnEndsAreLeastSpec) false w args)
      (Rows.fnEndsAreLeastSpec.post enc Tryd.prog Tryd.f6 false true false false) := by
  refine returnsInHanded_of_change_and (C := Tryd.checked) (X := fun w _ => laidMetH Tryd.prog Rows.fnEndsAreLeastRow.laid w) (fun _ _ _ hh h => h.of_heap hh) own started (by kernel_rfl) Tryd.func6
    (ChangeSpec.witness_shaped (enc := enc) (C := Tryd.checked) (os := os) (X := fun w _ => laidMetH Tryd.prog Rows.fnEndsAreLeastRow.laid w) false (World.doorLaid Tryd.prog 400 os) #[.slice none 0 0, .slice none 0 0] 8 rfl (World.shaped_of_RefB (by kernel_rfl) (by kernel_rfl)) (by kernel_rfl) (by kernel_rfl) (by kernel_rfl) (door_met os _)) ?_
  intro W base args ds gs before hval0 hW hcnd hsz0 hL _
  have hsz : (DataW.weightsEach Tryd.prog (Tryd.f6.params.toList ++ Rows.fnEndsAreLeastSpec.plain.varTypes Tryd.prog) (ds ++ gs)).all (· ≤ reachBytes) = true := hsz0
  have hval : ∀ (j : Nat) t v, Tryd.f6.params[j]? = some t → args[j]? = some v → Value.okWide Tryd.prog W .any base t v := hval0
  have hW' := hW
  obtain ⟨p, q, hA0, hV, rfl, hfz, hnd⟩ := hW
  have hA : DataW.TrodAll enc Tryd.prog W 0 (fun _ => true) true Tryd.f6.params.toList args.toList ds p := hA0
  rw [Tryd.params6] at hA hval hsz
  obtain ⟨v0, vs0, d0, ds0, p0, q0, hargs, rfl, rfl, h0, r0⟩ := trodAll_cons hA
  obtain ⟨v1, vs1, d1, ds1, p1, q1, rfl, rfl, rfl, h1, r1⟩ := trodAll_cons r0
  obtain ⟨rfl, rfl, rfl⟩ := trodAll_nil r1
  obtain rfl : args = #[v0, v1] := by cases args; simp_all
  obtain ⟨rfl, rfl⟩ := trodVars_none hV
  obtain ⟨a0, len0, cap0, rfl⟩ := okWide_slice Tryd.underlying35 (hval 0 35 v0 rfl rfl)
  have k0 := h0
  have lt0 : ∀ x ∈ p0, x.block < W.heap.size := by obtain ⟨m, hm⟩ := k0; exact DataW.trod_lt m _ _ _ hm
  obtain ⟨z0, w0⟩ : ∃ zs, IsRow .u8 W a0 len0 cap0 zs := by
    obtain ⟨fuel, hf⟩ := h0
    rcases open_ints Tryd.underlying35 Tryd.underlying5 (by kernel_rfl) hf with ⟨hcs, _⟩ | ⟨x, l, c, zs, hcs, _, hl, hm, hz, _, hcell, hwz⟩
    · simp [Value.cells] at hcs
      obtain ⟨rfl, rfl, rfl⟩ := hcs
      exact ⟨[], .inl ⟨rfl, rfl, rfl, rfl⟩⟩
    · simp [Value.cells] at hcs
      obtain ⟨rfl, rfl, rfl⟩ := hcs
      exact ⟨zs, .inr ⟨_, rfl, hl, hm, by simpa using hz, hcell, hwz⟩⟩
  have y0 : len0 * 1 ≤ 140737488351232 := PrintWords.sized_ints hsz (j := 0) (t := 35) rfl rfl Tryd.underlying35 Tryd.underlying5 (by kernel_rfl) (by kernel_rfl) h0
  obtain ⟨a1, len1, cap1, rfl⟩ := okWide_slice Tryd.underlying35 (hval 1 35 v1 rfl rfl)
  have k1 := h1
  have lt1 : ∀ x ∈ p1, x.block < W.heap.size := by obtain ⟨m, hm⟩ := k1; exact DataW.trod_lt m _ _ _ hm
  obtain ⟨z1, w1⟩ : ∃ zs, IsRow .u8 W a1 len1 cap1 zs := by
    obtain ⟨fuel, hf⟩ := h1
    rcases open_ints Tryd.underlying35 Tryd.underlying5 (by kernel_rfl) hf with ⟨hcs, _⟩ | ⟨x, l, c, zs, hcs, _, hl, hm, hz, _, hcell, hwz⟩
    · simp [Value.cells] at hcs
      obtain ⟨rfl, rfl, rfl⟩ := hcs
      exact ⟨[], .inl ⟨rfl, rfl, rfl, rfl⟩⟩
    · simp [Value.cells] at hcs
      obtain ⟨rfl, rfl, rfl⟩ := hcs
      exact ⟨zs, .inr ⟨_, rfl, hl, hm, by simpa using hz, hcell, hwz⟩⟩
  have y1 : len1 * 1 ≤ 140737488351232 := PrintWords.sized_ints hsz (j := 1) (t := 35) rfl rfl Tryd.underlying35 Tryd.underlying5 (by kernel_rfl) (by kernel_rfl) h1
  clear hA0 hval0 hsz0 hsz
  refine (P.laws_FnEndsAreLeast.walk Pure.FnEndsAreLeast a0 len0 cap0 z0 a1 len1 cap1 z1 W w0 y0 w1 y1 (table hL)).mono fun e W' ⟨he, bel⟩ => ?_
  subst he
  exact ⟨_, rfl, _, _, _, [], _, [], hW', trodAll_mk1 (shut_bool Tryd.underlying4 _), (trodAll_cons_mk (Below.trod laidOut (by kernel_rfl) (of_decide_eq_true (by kernel_rfl)) k0 bel lt0) (trodAll_cons_mk (Below.trod laidOut (by kernel_rfl) (of_decide_eq_true (by kernel_rfl)) k1 bel lt1) trodAll_mk0)), rfl, bel.frame _, fun h => by cases h⟩
set_option maxHeartbeats 8000000 in
theorem named_ : Tryd.pinned.checked.prog.funcNamed "loop.example/g01106/laws.FnEndsAreLeast" = some 6 := by kernel_rfl
set_option maxHeartbeats 8000000 in
theorem joined_ : joinedFacts Tryd.pinned.checked.prog 6 Tryd.f6 Rows.fnEndsAreLeastSpec Rows.fnEndsAreLeastRow = true := by
  unfold joinedFacts
  repeat' (with_reducible refine (Bool.and_eq_true_iff).2 ⟨?_, ?_⟩)
  all_goals (as_aux_lemma => kernel_rfl)
theorem over : Rows.fnEndsAreLeastRow.holds Tryd.pinned (OpenSpec.ofChange Rows.fnEndsAreLeastSpec) :=
  OpenClaim.holds_of_wide 6 Tryd.f6 rfl rfl rfl rfl rfl rfl rfl ⟨rfl, rfl, rfl, rfl, rfl⟩ rfl rfl rfl rfl rfl named_ Tryd.func6 joined_
    (of_decide_eq_true (by kernel_rfl)) (by unfold Func.isWrapper; first | (rw [if_pos (by decide +kernel)]; kernel_rfl) | (rw [if_neg (by decide +kernel)]; exact ⟨rfl, rfl⟩))
    (fun os started H enc _ => lifted os started H enc)
set_option maxHeartbeats 8000000 in
theorem main_ : Tryd.pinned.checked.prog.mainIs = some (true, "db67f5b5a54c9f31397de544f55d48fa9d1bcc0f366770764b110f372f5e00c3".toList) := by kernel_rfl
set_option maxHeartbeats 8000000 in
theorem looks_ : true = Tryd.pinned.checked.prog.looks [] := by kernel_rfl
theorem stand_ : ([35].all fun u => !Tryd.prog.wantsStandIn u) = true := by kernel_rfl
set_option maxHeartbeats 8000000 in
theorem goes_ : false = Rows.fnEndsAreLeastRow.goesBy Tryd.pinned.checked.prog := by kernel_rfl
theorem wf_ : Rows.fnEndsAreLeastRow.wfByText (OpenSpec.ofChange Rows.fnEndsAreLeastSpec) = true := by kernel_rfl
theorem proved : Rows.FnEndsAreLeastCardSaid :=
  Claim7.holds_tied_plain_at .later [] [.data, .data] true (true, "db67f5b5a54c9f31397de544f55d48fa9d1bcc0f366770764b110f372f5e00c3") true
    over (fun _ h => by cases h) wf_ (fun _ h => by cases h) fnEndsAreLeast_row_tie rfl ⟨rfl, rfl⟩ main_ rfl
    (fun f fn hf hfn => by
      obtain rfl : f = 6 := Option.some.inj (named_.symm.trans hf) |>.symm
      obtain rfl : fn = Tryd.f6 := (Option.some.inj (Tryd.func6.symm.trans hfn)).symm
      exact ⟨looks_, fun j t ht => by
        rw [Tryd.params6] at ht
        have hm : t ∈ [35] := by have hq := Array.mem_of_getElem? ht; simp at hq; simp [hq]
        exact (show Tryd.prog.wantsStandIn t = false by simpa using List.all_eq_true.1 stand_ t hm)⟩)
    goes_
end Go.Proofs.YtimjblnglhmakaaDoor.fnEndsAreLeast
namespace Go.Proofs.YtimjblnglhmakaaDoor
theorem fnEndsAreLeast_holds : Rows.FnEndsAreLeastCardSaid := fnEndsAreLeast.proved
end Go.Proofs.YtimjblnglhmakaaDoor
