/- The law FnClosures holds at every input. Written by wip/pack.py: the kit's printed words that are used, the functions' walks as wip/gen.py prints them, and hand proofs. -/
import Derived.Test.YtfjpilcmjabikaaDoorKFnClosures5
import Derived.SizedLaws
import Derived.ChangeSlices
import Derived.Test.YtfjpilcmjabikaaDoorRows
import Derived.Test.YtfjpilcmjabikaaDoorCards
import Derived.Test.YtfjpilcmjabikaaDoorTie
import Derived.WalkKit
import Derived.ProofKit
import Derived.OpenShut
import Derived.ShutString
import Derived.ChangeOld
import Derived.Below
import Derived.LaidMore
import Derived.Stop.Joined
import Derived.Stop.LaidErr
import Derived.Lib.LaidTab
import Derived.Lib.SmallJoins
import Derived.SevenTiedAt
namespace Go.Proofs.YtfjpilcmjabikaaDoor.M
open Go.RowKit Go.Proofs.YtfjpilcmjabikaaDoorW.PrintMore Go.Proofs.YtfjpilcmjabikaaDoorW.PrintLast Go.Proofs.YtfjpilcmjabikaaDoorW.PrintWords Go.Proofs.YtfjpilcmjabikaaDoor.P
theorem orGood_ev (n : Int) (l : List Int) (hl : l.length ≤ 140737488355328) : Ev (fun k => Aam.f k n l) (isOrd n l) := by
  unfold Aam.f isOrd
  refine Ev.bind (orRelation_ev n l hl) ?_
  cases hr : isRel n l with
  | false => simp only [Bool.false_eq_true, if_false, Bool.false_and]; exact Ev.now _
  | true =>
    obtain ⟨m, rfl, h⟩ := isRel_iff.1 hr
    have hlen := h.len
    have h10 := h.le
    simp only [if_true, Bool.true_and]
    refine Ev.all (fun i k => Aam.l0 k l (l.length : Int) (i : Int) (m : Int) l) l.length _ ?_ ?_ ?_
    · intro i r hi hp hrest
      rw [Bool.and_eq_true] at hp
      have hB : B l i i = false := by simpa using hp.1
      refine Ev.step (fun _ => rfl) ?_
      simp only [Aam.l0, if_pos (show (i : Int) < (l.length : Int) by omega), if_pos (show (0 : Int) ≤ (i : Int) by omega), h.rd, orHas_eq (row l i) i (by omega), show (row l i).testBit i = B l i i from rfl, Option.bind_some, hB, Bool.false_eq_true, if_false]
      refine Ev.bind (orList_ev m (by omega) (row l i) (h.row_lt i)) ?_
      have hE := elems_length_le m (row l i)
      rw [ints_length]
      refine Ev.up (fun q k => Aam.l1 k ((row l i : Nat) : Int) l (l.length : Int) (i : Int) (ints (elems m (row l i))) ((elems m (row l i)).length : Int) (q : Int) (m : Int) l) (elems m (row l i)).length ?_ ?_
      · intro q hq hn
        refine Ev.step (fun _ => rfl) ?_
        have hmem : (elems m (row l i)).getD q 0 ∈ elems m (row l i) := by simp [hq]
        have hlt := (mem_elems.1 hmem).1
        have e0 : rd (ints (elems m (row l i))) (q : Int) = (((elems m (row l i)).getD q 0 : Nat) : Int) := by rw [rd_nat, ints_getD _ _ hq]
        have hd : diff (row l ((elems m (row l i)).getD q 0)) (row l i) = 0 := by
          have hc := hp.2
          unfold closedAt at hc
          rw [allB_iff, hlen] at hc
          exact beq_iff_eq.1 (hc q hq)
        simp only [Aam.l1, if_pos (show (q : Int) < ((elems m (row l i)).length : Int) by omega), if_pos (show (0 : Int) ≤ (q : Int) by omega), ints_length, e0, if_pos (show (0 : Int) ≤ (((elems m (row l i)).getD q 0 : Nat) : Int) by omega), if_pos (show (((elems m (row l i)).getD q 0 : Nat) : Int) < (l.length : Int) by omega), h.rd, andNot_i64 _ _ (h.row_62 _) (h.row_62 _), hd, Int.natCast_zero, if_true, next64 q _ hq (by omega)]
        exact hn
      · refine Ev.step (fun _ => rfl) ?_
        simp only [Aam.l1, if_neg (show ¬ ((elems m (row l i)).length : Int) < ((elems m (row l i)).length : Int) by omega), next64 i l.length hi (by omega)]
        exact hrest
    · intro i hi hp
      refine Ev.step (fun _ => rfl) ?_
      simp only [Aam.l0, if_pos (show (i : Int) < (l.length : Int) by omega), if_pos (show (0 : Int) ≤ (i : Int) by omega), h.rd, orHas_eq (row l i) i (by omega), show (row l i).testBit i = B l i i from rfl, Option.bind_some]
      cases hB : B l i i with
      | true => simp only [if_true]; exact Ev.now _
      | false =>
        rw [hB] at hp
        have hc : closedAt l.length l i = false := by simpa using hp
        unfold closedAt at hc
        rw [hlen] at hc
        obtain ⟨j, hj, hbad, hless⟩ := least_false (allB_false.1 hc)
        simp only [Bool.false_eq_true, if_false]
        refine Ev.bind (orList_ev m (by omega) (row l i) (h.row_lt i)) ?_
        have hE := elems_length_le m (row l i)
        rw [ints_length]
        refine Ev.up (fun q k => Aam.l1 k ((row l i : Nat) : Int) l (l.length : Int) (i : Int) (ints (elems m (row l i))) ((elems m (row l i)).length : Int) (q : Int) (m : Int) l) j ?_ ?_
        · intro q hq hn
          refine Ev.step (fun _ => rfl) ?_
          have hmem : (elems m (row l i)).getD q 0 ∈ elems m (row l i) := by simp [show q < (elems m (row l i)).length by omega]
          have hlt := (mem_elems.1 hmem).1
          have e0 : rd (ints (elems m (row l i))) (q : Int) = (((elems m (row l i)).getD q 0 : Nat) : Int) := by rw [rd_nat, ints_getD _ _ (by omega)]
          have hd : diff (row l ((elems m (row l i)).getD q 0)) (row l i) = 0 := beq_iff_eq.1 (hless q hq)
          simp only [Aam.l1, if_pos (show (q : Int) < ((elems m (row l i)).length : Int) by omega), if_pos (show (0 : Int) ≤ (q : Int) by omega), ints_length, e0, if_pos (show (0 : Int) ≤ (((elems m (row l i)).getD q 0 : Nat) : Int) by omega), if_pos (show (((elems m (row l i)).getD q 0 : Nat) : Int) < (l.length : Int) by omega), h.rd, andNot_i64 _ _ (h.row_62 _) (h.row_62 _), hd, Int.natCast_zero, if_true, next64 q _ (show q < (elems m (row l i)).length by omega) (by omega)]
          exact hn
        · refine Ev.step (fun _ => rfl) ?_
          have hmem : (elems m (row l i)).getD j 0 ∈ elems m (row l i) := by simp [hj]
          have hlt := (mem_elems.1 hmem).1
          have e0 : rd (ints (elems m (row l i))) (j : Int) = (((elems m (row l i)).getD j 0 : Nat) : Int) := by rw [rd_nat, ints_getD _ _ (by omega)]
          have hd : ¬ ((diff (row l ((elems m (row l i)).getD j 0)) (row l i) : Nat) : Int) = 0 := by
            have := beq_eq_false_iff_ne.1 hbad
            omega
          simp only [Aam.l1, if_pos (show (j : Int) < ((elems m (row l i)).length : Int) by omega), if_pos (show (0 : Int) ≤ (j : Int) by omega), ints_length, e0, if_pos (show (0 : Int) ≤ (((elems m (row l i)).getD j 0 : Nat) : Int) by omega), if_pos (show (((elems m (row l i)).getD j 0 : Nat) : Int) < (l.length : Int) by omega), h.rd, andNot_i64 _ _ (h.row_62 _) (h.row_62 _), if_neg hd]
          exact Ev.now _
    · refine Ev.step (fun _ => rfl) ?_
      simp only [Aam.l0, if_neg (show ¬ (l.length : Int) < (l.length : Int) by omega)]
      exact Ev.now _
theorem setOf_bit_or (q : Nat → Bool) (j : Nat) : setOf (j + 1) q = if q j then setOf j q ||| 2 ^ j else setOf j q := by
  show setOf j q ||| (if q j then 2 ^ j else 0) = _
  cases q j <;> simp
def part (n : Nat) (p : Nat → Nat → Bool) (i j : Nat) : List Int := (List.range n).map fun a => ((setOf (if a < i then n else if a = i then j else 0) (p a) : Nat) : Int)
theorem part_length (n : Nat) (p : Nat → Nat → Bool) (i j : Nat) : (part n p i j).length = n := by simp [part]
theorem part_getD (n : Nat) (p : Nat → Nat → Bool) (i j a : Nat) (h : a < n) : (part n p i j).getD a 0 = ((setOf (if a < i then n else if a = i then j else 0) (p a) : Nat) : Int) := by simp [part, h]
theorem part_next (n : Nat) (p : Nat → Nat → Bool) (i : Nat) : part n p i n = part n p (i + 1) 0 := by
  unfold part
  apply List.map_congr_left
  intro a _
  by_cases h1 : a < i
  · rw [if_pos h1, if_pos (by omega)]
  · rw [if_neg h1]
    by_cases h2 : a = i
    · rw [if_pos h2, if_pos (by omega)]
    · rw [if_neg h2, if_neg (by omega)]
      by_cases h3 : a = i + 1
      · rw [if_pos h3]
      · rw [if_neg h3]
theorem part_no (n : Nat) (p : Nat → Nat → Bool) (i j : Nat) (hi : i < n) (h : p i j = false) : part n p i j = part n p i (j + 1) := by
  unfold part
  apply List.map_congr_left
  intro a _
  by_cases h2 : a = i
  · subst h2
    rw [if_neg (Nat.lt_irrefl _), if_pos rfl, if_neg (Nat.lt_irrefl _), if_pos rfl, setOf_bit_or, h]
    rfl
  · rw [if_neg h2, if_neg h2]
theorem part_yes (n : Nat) (p : Nat → Nat → Bool) (i j : Nat) (hi : i < n) (h : p i j = true) : (part n p i j).set i ((setOf j (p i) ||| 2 ^ j : Nat) : Int) = part n p i (j + 1) := by
  apply list_ext_getD (by simp [part_length])
  intro a ha
  have ha : a < n := by simpa [part_length] using ha
  rw [part_getD n p i (j + 1) a ha]
  by_cases h2 : a = i
  · subst h2
    rw [if_neg (Nat.lt_irrefl _), if_pos rfl, setOf_bit_or, h]
    rw [List.getD_eq_getElem?_getD, List.getElem?_set_self (by rw [part_length]; exact hi)]
    rfl
  · have e : ((part n p i j).set i ((setOf j (p i) ||| 2 ^ j : Nat) : Int)).getD a 0 = (part n p i j).getD a 0 := by
      simp [List.getD, Ne.symm h2]
    rw [e, part_getD n p i j a ha, if_neg h2, if_neg h2]
theorem part_zero (n : Nat) (p : Nat → Nat → Bool) : part n p 0 0 = List.replicate n 0 := by
  apply list_ext_getD (by simp [part_length])
  intro a ha
  have ha : a < n := by simpa [part_length] using ha
  rw [part_getD n p 0 0 a ha, if_neg (Nat.not_lt_zero _)]
  have : (if a = 0 then 0 else 0) = 0 := by split <;> rfl
  rw [this]
  simp [setOf, ha]
theorem part_all (n : Nat) (p : Nat → Nat → Bool) : part n p n 0 = relL n p := by
  unfold part relL
  apply List.map_congr_left
  intro a ha
  rw [List.mem_range] at ha
  rw [if_pos ha]
theorem relation_ev (n : Nat) (hn : n ≤ 62) (g : Nat → Int → Int → Option Bool) (p : Nat → Nat → Bool) (hg : ∀ i j, i < n → j < n → Ev (fun k => g k (i : Int) (j : Int)) (p i j)) :
    Ev (fun k => Aaf.f k (n : Int) (g k)) ((n : Int), relL n p) := by
  -- the tests all come to their answers from one number of rounds on
  obtain ⟨K, hK⟩ : ∃ K, ∀ k, K ≤ k → ∀ i j, i < n → j < n → g k (i : Int) (j : Int) = some (p i j) := by
    have one : ∀ m, ∃ K, ∀ k, K ≤ k → ∀ i j, i < n → j < n → i * n + j < m → g k (i : Int) (j : Int) = some (p i j) := by
      intro m
      induction m with
      | zero => exact ⟨0, fun k _ i j _ _ h => absurd h (Nat.not_lt_zero _)⟩
      | succ m ih =>
        obtain ⟨K, hK⟩ := ih
        by_cases hx : ∃ i j, i < n ∧ j < n ∧ i * n + j = m
        · obtain ⟨i, j, hi, hj, hm⟩ := hx
          obtain ⟨K', hK'⟩ := hg i j hi hj
          refine ⟨max K K', fun k hk i' j' hi' hj' h => ?_⟩
          by_cases he : i' * n + j' = m
          · have e1 : i' = i := by
              have a1 : (i' * n + j') / n = i' := by rw [Nat.mul_comm, Nat.mul_add_div (by omega), Nat.div_eq_of_lt hj', Nat.add_zero]
              have a2 : (i * n + j) / n = i := by rw [Nat.mul_comm, Nat.mul_add_div (by omega), Nat.div_eq_of_lt hj, Nat.add_zero]
              rw [← a1, ← a2, he, hm]
            subst e1
            have e2 : j' = j := by omega
            subst e2
            exact hK' k (by omega)
          · exact hK k (by omega) i' j' hi' hj' (by omega)
        · exact ⟨K, fun k hk i j hi hj h => hK k hk i j hi hj (by
            rcases Nat.lt_or_ge (i * n + j) m with h1 | h1
            · exact h1
            · exact absurd ⟨i, j, hi, hj, by omega⟩ hx)⟩
    obtain ⟨K, h⟩ := one (n * n + n)
    refine ⟨K, fun k hk i j hi hj => h k hk i j hi hj ?_⟩
    have : i * n ≤ n * n := Nat.mul_le_mul_right n (by omega)
    omega
  -- with the tests as' at one number
  have main : ∀ is : Int → Int → Option Bool, (∀ i j, i < n → j < n → is (i : Int) (j : Int) = some (p i j)) → Ev (fun k => Aaf.f k (n : Int) is) ((n : Int), relL n p) := by
    intro is his
    unfold Aaf.f
    simp only [if_pos (show (0 : Int) ≤ (n : Int) by omega), Int.toNat_natCast, if_pos (show n ≤ 35184372088832 by omega)]
    rw [← part_zero n p]
    refine Ev.up (fun i k => Aaf.l0 is k (n : Int) (n : Int) (i : Int) (n : Int) (part n p i 0)) n ?_ ?_
    · intro i hi h
      refine Ev.step (fun _ => rfl) ?_
      simp only [Aaf.l0, if_pos (show (i : Int) < (n : Int) by omega)]
      refine Ev.up (fun j k => Aaf.l1 is k (n : Int) (i : Int) (n : Int) (i : Int) (n : Int) (j : Int) (n : Int) (part n p i j)) n ?_ ?_
      · intro j hj h
        refine Ev.step (fun _ => rfl) ?_
        simp only [Aaf.l1, if_pos (show (j : Int) < (n : Int) by omega), his i j hi hj, Option.bind_some, next64 j n hj (by omega)]
        cases hp : p i j with
        | false =>
          simp only [Bool.false_eq_true, if_false]
          rw [part_no n p i j hi hp]
          exact h
        | true =>
          have hs : setOf j (p i) < 9223372036854775808 := setOf_62 _ _ (by omega)
          have h2 : (2 : Nat) ^ j < 9223372036854775808 := Nat.lt_of_le_of_lt (Nat.pow_le_pow_right (by decide) (by omega : j ≤ 62)) (by decide)
          have e1 : rd (part n p i j) (i : Int) = ((setOf j (p i) : Nat) : Int) := by
            rw [rd_nat, part_getD n p i j i hi, if_neg (Nat.lt_irrefl _), if_pos rfl]
          simp only [if_true, if_pos (show (0 : Int) ≤ (i : Int) by omega), part_length, if_pos (show (i : Int) < (n : Int) by omega), if_pos (show (0 : Int) ≤ (j : Int) by omega), e1, shl1 j (by omega), or_i64 _ _ hs h2, Int.toNat_natCast]
          rw [part_yes n p i j hi hp]
          exact h
      · refine Ev.step (fun _ => rfl) ?_
        simp only [Aaf.l1, if_neg (show ¬ (n : Int) < (n : Int) by omega), next64 i n hi (by omega)]
        rw [part_next]
        exact h
    · refine Ev.step (fun _ => rfl) ?_
      simp only [Aaf.l0, if_neg (show ¬ (n : Int) < (n : Int) by omega)]
      rw [part_all]
      exact Ev.now _
  -- the least test that answers so
  have h0 := main (fun x y => if 0 ≤ x ∧ x < n ∧ 0 ≤ y ∧ y < n then some (p x.toNat y.toNat) else none) (fun i j hi hj => by
    show (if _ then _ else _) = _
    rw [if_pos ⟨by omega, by omega, by omega, by omega⟩, Int.toNat_natCast, Int.toNat_natCast])
  obtain ⟨K', hK'⟩ := h0
  refine ⟨max K K' + 1, fun k hk => ?_⟩
  obtain ⟨d, rfl⟩ : ∃ d, k = d + 1 := ⟨k - 1, by omega⟩
  refine Aaf.mono2 (is := fun x y => if 0 ≤ x ∧ x < n ∧ 0 ≤ y ∧ y < n then some (p x.toNat y.toNat) else none) (is' := g (d + 1)) (fun x y r hr => ?_) (n : Int) d _ (hK' d (by omega))
  by_cases hxy : 0 ≤ x ∧ x < n ∧ 0 ≤ y ∧ y < n
  · rw [if_pos hxy] at hr
    obtain ⟨i, rfl⟩ := Int.eq_ofNat_of_zero_le hxy.1
    obtain ⟨j, rfl⟩ := Int.eq_ofNat_of_zero_le hxy.2.2.1
    rw [Int.toNat_natCast, Int.toNat_natCast] at hr
    rw [hK (d + 1) (by omega) i j (by omega) (by omega)]
    exact hr
  · rw [if_neg hxy] at hr
    cases hr
end Go.Proofs.YtfjpilcmjabikaaDoor.M
namespace Go.Proofs.YtfjpilcmjabikaaDoor.M
open Go.RowKit Go.Proofs.YtfjpilcmjabikaaDoorW.PrintMore Go.Proofs.YtfjpilcmjabikaaDoorW.PrintLast Go.Proofs.YtfjpilcmjabikaaDoorW.PrintWords Go.Proofs.YtfjpilcmjabikaaDoor.P
def Tot {α : Type} (g : Nat → Option α) (Q : α → Prop) : Prop := ∃ r, Ev g r ∧ Q r
section
variable {α β : Type} {Q : α → Prop} {R : β → Prop}
theorem Tot.now {r : α} (h : Q r) : Tot (fun _ => some r) Q := ⟨r, Ev.now r, h⟩
theorem Tot.step {g f : Nat → Option α} (h : ∀ k, g (k + 1) = f k) (k : Tot f Q) : Tot g Q := by obtain ⟨r, k, hq⟩ := k; exact ⟨r, Ev.step h k, hq⟩
theorem Tot.bind {g : Nat → Option α} {f : Nat → α → Option β} (h : Tot g Q) (k : ∀ a, Q a → Tot (fun n => f n a) R) : Tot (fun n => (g n).bind (f n)) R := by
  obtain ⟨a, h, hq⟩ := h
  obtain ⟨r, k, hr⟩ := k a hq
  exact ⟨r, Ev.bind h k, hr⟩
theorem Tot.ebind {g : Nat → Option α} {f : Nat → α → Option β} {a : α} (h : Ev g a) (k : Tot (fun n => f n a) R) : Tot (fun n => (g n).bind (f n)) R := by
  obtain ⟨r, k, hr⟩ := k
  exact ⟨r, Ev.bind h k, hr⟩
theorem Tot.obind {x : Option α} {f : Nat → α → Option β} (h : ∃ r, x = some r ∧ Q r) (k : ∀ a, Q a → Tot (fun n => f n a) R) : Tot (fun n => x.bind (f n)) R := by
  obtain ⟨a, rfl, hq⟩ := h
  exact k a hq
theorem Tot.ite {c : Prop} [Decidable c] {f g : Nat → Option α} (h1 : c → Tot f Q) (h2 : ¬ c → Tot g Q) : Tot (fun k => if c then f k else g k) Q := by
  by_cases h : c
  · simp only [if_pos h]; exact h1 h
  · simp only [if_neg h]; exact h2 h
theorem Tot.up {S : Type} (G : Nat → S → Nat → Option α) (n : Nat) (Inv : Nat → S → Prop)
    (step : ∀ i s, i < n → Inv i s → (∀ s', Inv (i + 1) s' → Tot (G (i + 1) s') Q) → Tot (G i s) Q) (stop : ∀ s, Inv n s → Tot (G n s) Q) (i : Nat) (hi : i ≤ n) (s : S) (hs : Inv i s) : Tot (G i s) Q := by
  obtain ⟨d, rfl⟩ : ∃ d, n = i + d := ⟨n - i, by omega⟩
  clear hi
  induction d generalizing i s with
  | zero => exact stop s hs
  | succ d ih =>
    refine step i s (by omega) hs fun s' h' => ?_
    exact ih (i + 1) s' h' (fun a b ha => step a b (by omega)) (by rw [show i + 1 + d = i + (d + 1) by omega]; exact stop)
end
def By (l : List Int) : Prop := ∀ x ∈ l, 0 ≤ x ∧ x ≤ 255
theorem by_wf {l : List Int} (h : ∀ x ∈ l, (Lit.int .u8 x).wf = true) : By l := by
  intro x hx
  have := h x hx
  simp [Lit.wf, IntKind.min, IntKind.max, IntKind.signed, IntKind.bits] at this
  omega
theorem By.rd {l : List Int} (h : By l) (i : Nat) : 0 ≤ rd l (i : Int) ∧ rd l (i : Int) ≤ 255 := by
  rw [rd_nat]
  by_cases hi : i < l.length
  · have := h l[i] (List.getElem_mem hi)
    simpa [hi] using this
  · simp [Nat.not_lt.1 hi]
theorem and_255 (x : Int) : 0 ≤ Go.bits .and .u64 x 255 ∧ Go.bits .and .u64 x 255 ≤ 255 := by
  have e : Go.bits .and .u64 x 255 = IntKind.u64.wrap (((BitVec.ofInt 64 x).toNat &&& 255 : Nat) : Int) := by
    show IntKind.u64.wrap ((BitVec.ofInt 64 x &&& BitVec.ofInt 64 255).toNat : Int) = _
    rw [BitVec.toNat_and]; rfl
  have h : (BitVec.ofInt 64 x).toNat &&& 255 ≤ 255 := Nat.and_le_right
  rw [e, u64_small _ (by omega)]
  omega
theorem wrap64_in (x : Int) (h0 : -9223372036854775808 ≤ x) (h1 : x ≤ 9223372036854775807) : wrap64 x = x := by unfold wrap64; omega
theorem next_ok {l : List Int} (hb : By l) (p h : Int) (hp : 0 ≤ p) (hp2 : p ≤ 1000000) : ∃ r, Aa0.f l p h = some r ∧ 0 ≤ r.1 ∧ r.1 ≤ 255 ∧ r.2.1 = p + 1 := by
  unfold Aa0.f
  obtain ⟨i, rfl⟩ := Int.eq_ofNat_of_zero_le hp
  have h1 := hb.rd i
  rw [wrap64_in ((i : Int) + 1) (by omega) (by omega)]
  have ha := fun x => and_255 x
  by_cases h0 : (i : Int) < (l.length : Int)
  · rw [if_pos h0, if_pos hp, if_pos (show (i : Int) + 1 ≤ (l.length : Int) by omega)]
    exact ⟨_, rfl, by rw [wrap64_in _ (by omega) (by omega)]; omega, by rw [wrap64_in _ (by omega) (by omega)]; omega, rfl⟩
  · rw [if_neg h0, if_neg (show ¬ (i : Int) + 1 ≤ (l.length : Int) by omega)]
    refine ⟨_, rfl, ?_, ?_, rfl⟩
    · have := ha ((IntKind.u64.wrap (IntKind.u64.wrap (IntKind.u64.wrap (h * 6364136223846793005)) + 1442695040888963407)) / 1099511627776)
      rw [wrap64_in _ (by omega) (by omega)]; exact this.1
    · have := ha ((IntKind.u64.wrap (IntKind.u64.wrap (IntKind.u64.wrap (h * 6364136223846793005)) + 1442695040888963407)) / 1099511627776)
      rw [wrap64_in _ (by omega) (by omega)]; exact this.2
theorem pick_ok {l : List Int} (hb : By l) (p h a : Int) (hp : 0 ≤ p) (hp2 : p ≤ 999990) : ∃ r, Aah.f l p h a = some r ∧ 0 ≤ r.1 ∧ (r.1 = 0 ∨ r.1 < a) ∧ p ≤ r.2.1 ∧ r.2.1 ≤ p + 2 := by
  unfold Aah.f
  by_cases h1 : a ≤ 1
  · rw [if_pos h1]; exact ⟨_, rfl, by simp, by simp, by simp, by simp; omega⟩
  · rw [if_neg h1]
    obtain ⟨⟨v, p1, h'⟩, e, a1, a2, a3⟩ := next_ok hb p h hp (by omega)
    simp only at a1 a2 a3
    subst a3
    rw [e, Option.bind_some]
    by_cases h2 : a > 200
    · rw [if_pos h2]
      obtain ⟨⟨v2, p2, h''⟩, e2, b1, b2, b3⟩ := next_ok hb (p + 1) h' (by omega) (by omega)
      simp only at b1 b2 b3
      subst b3
      rw [e2, Option.bind_some, if_neg (by omega)]
      refine ⟨_, rfl, ?_, ?_, by simp; omega, by simp; omega⟩
      all_goals
        simp only
        rw [wrap64_in (v * 256) (by omega) (by omega), wrap64_in (v * 256 + v2) (by omega) (by omega), Int.tmod_eq_emod_of_nonneg (by omega)]
      · exact Int.emod_nonneg _ (by omega)
      · exact .inr (Int.emod_lt_of_pos _ (by omega))
    · rw [if_neg h2, if_neg (by omega)]
      refine ⟨_, rfl, ?_, ?_, by simp only; omega, by simp only; omega⟩
      all_goals
        simp only
        rw [Int.tmod_eq_emod_of_nonneg (by omega)]
      · exact Int.emod_nonneg _ (by omega)
      · exact .inr (Int.emod_lt_of_pos _ (by omega))
theorem one_ok {l : List Int} (hb : By l) (p h a : Int) (hp : 0 ≤ p) (hp2 : p ≤ 999990) : ∃ r, Aau.f l p h a = some r ∧ p ≤ r.2.1 ∧ r.2.1 ≤ p + 2 := by
  obtain ⟨r, e, h1⟩ := pick_ok hb p h a hp hp2
  unfold Aau.f
  rw [e]
  exact ⟨_, rfl, h1.2.2.1, h1.2.2.2⟩
theorem among_ok {l : List Int} (hb : By l) (p h : Int) (z : List Int) (hz : z ≠ []) (hp : 0 ≤ p) (hp2 : p ≤ 999990) : ∃ r, Aaq.f l p h z = some r ∧ r.1 ∈ z ∧ p ≤ r.2.1 ∧ r.2.1 ≤ p + 2 := by
  obtain ⟨r, e, h1, h2, h3⟩ := pick_ok hb p h (z.length : Int) hp hp2
  have hz' := List.length_pos_iff.2 hz
  unfold Aaq.f
  rw [e, Option.bind_some, if_pos h1, if_pos (by omega)]
  refine ⟨_, rfl, ?_, h3⟩
  obtain ⟨i, hi⟩ := Int.eq_ofNat_of_zero_le h1
  simp only [hi]
  rw [rd_get z i (by omega)]
  exact List.getElem_mem _
theorem orHas_ok (s j : Int) (hj : 0 ≤ j) : ∃ r, Aa2.f s j = some r ∧ True := by unfold Aa2.f; rw [if_pos hj]; exact ⟨_, rfl, trivial⟩
theorem l1Own_eq (l : List Int) (h : l.length < 17592186044416) : Aba.f l = some l := by
  unfold Aba.f
  simp [h]
theorem close_tot (n : Int) (l : List Int) (hl : l.length ≤ 140737488355328) : Tot (fun k => Aad.f k n l) (fun r => 0 ≤ r.1 ∧ (r.1 = 0 ∨ r.1 = n) ∧ r.1 ≤ 10 ∧ (r.2.1.length : Int) = r.1 ∧ r.2.2 = isRel n l) := by
  unfold Aad.f
  refine Tot.ebind (orRelation_ev n l hl) ?_
  cases hr : isRel n l with
  | false => simp only [Bool.false_eq_true, if_false]; exact Tot.now (by simp)
  | true =>
    obtain ⟨m, rfl, h⟩ := isRel_iff.1 hr
    have hlen := h.len
    have h10 := h.le
    simp only [if_true, l1Own_eq l (by omega), Option.bind_some, hlen]
    refine Tot.up (fun i s k => Aad.l0 k (m : Int) (i : Int) (m : Int) s) m (fun _ s => s.length = m) ?_ ?_ 0 (Nat.zero_le _) l hlen
    · intro i s hi hs next
      refine Tot.step (fun _ => rfl) ?_
      simp only [Aad.l0, if_pos (show (i : Int) < (m : Int) by omega), hs]
      refine Tot.up (fun j s k => Aad.l1 k (i : Int) (m : Int) (i : Int) (m : Int) (j : Int) (m : Int) s) m (fun _ s => s.length = m) ?_ ?_ 0 (Nat.zero_le _) s hs
      · intro j s hj hs next
        refine Tot.step (fun _ => rfl) ?_
        simp only [Aad.l1, hs, if_pos (show (j : Int) < (m : Int) by omega), if_pos (show (i : Int) < (m : Int) by omega), if_pos (show (0 : Int) ≤ (i : Int) by omega), if_pos (show (0 : Int) ≤ (j : Int) by omega), next64 j m hj (by omega)]
        refine Tot.obind (orHas_ok _ _ (by omega)) fun b _ => ?_
        refine Tot.ite (fun _ => ?_) (fun _ => ?_)
        · exact next _ (by simpa using hs)
        · exact next _ hs
      · intro s hs
        refine Tot.step (fun _ => rfl) ?_
        simp only [Aad.l1, if_neg (show ¬ (m : Int) < (m : Int) by omega), next64 i m hi (by omega)]
        exact next _ hs
    · intro s hs
      refine Tot.step (fun _ => rfl) ?_
      simp only [Aad.l0, if_neg (show ¬ (m : Int) < (m : Int) by omega)]
      exact Tot.now (by simp [hs]; omega)
theorem order_tot {l : List Int} (hb : By l) (p h a : Int) (hp : 0 ≤ p) (hp2 : p ≤ 999000) (ha0 : 0 ≤ a) (ha : a ≤ 10) :
    Tot (fun k => Aac.f k l p h a) (fun r => 0 ≤ r.1 ∧ r.1 ≤ a ∧ (r.2.1.length : Int) = r.1 ∧ p ≤ r.2.2.1 ∧ r.2.2.1 ≤ p + 400) := by
  unfold Aac.f
  rw [wrap64_in (a + 1) (by omega) (by omega)]
  refine Tot.obind (pick_ok hb p h (a + 1) hp (by omega)) ?_
  rintro ⟨n, p1, h1⟩ ⟨n0, n1, n2, n3⟩
  simp only at n0 n1 n2 n3
  simp only [if_pos n0]
  obtain ⟨m, rfl⟩ := Int.eq_ofNat_of_zero_le n0
  have hm : m ≤ 10 := by omega
  rw [Int.toNat_natCast]
  simp only [if_pos (show m ≤ 35184372088832 by omega)]
  refine Tot.obind (pick_ok hb p1 h1 3 (by omega) (by omega)) ?_
  rintro ⟨kd, p2, h2⟩ ⟨k0, k1, k2, k3⟩
  simp only at k0 k1 k2 k3
  refine Tot.up (fun i (s : List Int × List Int × Int × Int) k => Aac.l0 k (m : Int) kd s.1 s.2.1 (i : Int) l s.2.2.1 s.2.2.2 (m : Int) (List.replicate m 0)) m
    (fun i s => s.1.length = i ∧ s.2.1.length = i ∧ p ≤ s.2.2.1 ∧ s.2.2.1 ≤ p + 4 + 4 * (i : Int)) ?_ ?_ 0 (Nat.zero_le _) ([], [], p2, h2) ⟨rfl, rfl, by simp only; omega, by simp only; omega⟩
  · rintro i ⟨x8, x9, p3, h3⟩ hi ⟨s1, s2, s3, s4⟩ next
    simp only at s1 s2 s3 s4
    refine Tot.step (fun _ => rfl) ?_
    simp only [Aac.l0, if_pos (show (i : Int) < (m : Int) by omega), s1, s2, if_pos (show i < 17592186044416 by omega), next64 i m hi (by omega)]
    refine Tot.obind (pick_ok hb p3 h3 8 (by omega) (by omega)) ?_
    rintro ⟨v, p4, h4⟩ ⟨v0, v1, v2, v3⟩
    simp only at v0 v1 v2 v3
    simp only [Option.bind_some]
    refine Tot.ite (fun _ => ?_) (fun _ => ?_)
    · refine Tot.obind (pick_ok hb p4 h4 4 (by omega) (by omega)) ?_
      rintro ⟨v', p5, h5⟩ ⟨u0, u1, u2, u3⟩
      simp only at u0 u1 u2 u3
      exact next (_, _, _, _) ⟨by simp [s1], by simp [s2], by simp only; omega, by simp only; omega⟩
    · exact next (_, _, _, _) ⟨by simp [s1], by simp [s2], by simp only; omega, by simp only; omega⟩
  · rintro ⟨x8, x9, p3, h3⟩ ⟨s1, s2, s3, s4⟩
    simp only at s1 s2 s3 s4
    refine Tot.step (fun _ => rfl) ?_
    simp only [Aac.l0, if_neg (show ¬ (m : Int) < (m : Int) by omega)]
    refine Tot.up (fun i (s : Int × Int × List Int) k => Aac.l1 k (m : Int) kd x8 x9 (i : Int) l s.1 s.2.1 (m : Int) s.2.2) m
      (fun i s => p ≤ s.1 ∧ s.1 ≤ p + 44 + 22 * (i : Int) ∧ s.2.2.length = m) ?_ ?_ 0 (Nat.zero_le _) (p3, h3, List.replicate m 0) ⟨by simp only; omega, by simp only; omega, by simp⟩
    · rintro i ⟨p4, h4, z⟩ hi ⟨t1, t2, t3⟩ next
      simp only at t1 t2 t3
      refine Tot.step (fun _ => rfl) ?_
      simp only [Aac.l1, if_pos (show (i : Int) < (m : Int) by omega)]
      refine Tot.up (fun j (s : Int × Int × List Int) k => Aac.l2 k (m : Int) kd x8 x9 (i : Int) (j : Int) l s.1 s.2.1 (m : Int) s.2.2) m
        (fun j s => p ≤ s.1 ∧ s.1 ≤ p + 44 + 22 * (i : Int) + 2 * (j : Int) ∧ s.2.2.length = m) ?_ ?_ 0 (Nat.zero_le _) (p4, h4, z) ⟨by simp only; omega, by simp only; omega, t3⟩
      · rintro j ⟨p5, h5, z⟩ hj ⟨q1, q2, q3⟩ next
        simp only at q1 q2 q3
        have hone : ∀ v p' h' , p ≤ p' → p' ≤ p5 + 2 → Tot (fun k => Aac.l2 k (m : Int) kd x8 x9 (i : Int) ((j + 1 : Nat) : Int) l p' h' (m : Int) (z.set i v)) _ := fun v p' h' a1 a2 => next (p', h', z.set i v) ⟨a1, by simp only; omega, by simpa using q3⟩
        have hno : ∀ p' h' , p ≤ p' → p' ≤ p5 + 2 → Tot (fun k => Aac.l2 k (m : Int) kd x8 x9 (i : Int) ((j + 1 : Nat) : Int) l p' h' (m : Int) z) _ := fun p' h' a1 a2 => next (p', h', z) ⟨a1, by simp only; omega, q3⟩
        refine Tot.step (fun _ => rfl) ?_
        simp only [Aac.l2, if_pos (show (j : Int) < (m : Int) by omega), s1, s2, q3, if_pos (show (i : Int) < (m : Int) by omega), if_pos (show (0 : Int) ≤ (i : Int) by omega), if_pos (show (0 : Int) ≤ (j : Int) by omega), next64 j m hj (by omega), Int.toNat_natCast]
        refine Tot.ite (fun _ => ?_) (fun _ => ?_)
        · refine Tot.ite (fun _ => ?_) (fun _ => ?_)
          · exact hone _ _ _ (by omega) (by omega)
          · refine Tot.ite (fun _ => ?_) (fun _ => hno _ _ (by omega) (by omega))
            refine Tot.ite (fun _ => ?_) (fun _ => hno _ _ (by omega) (by omega))
            refine Tot.obind (one_ok hb p5 h5 3 (by omega) (by omega)) ?_
            rintro ⟨v, p6, h6⟩ ⟨u2, u3⟩
            simp only at u2 u3
            dsimp only
            exact Tot.ite (fun _ => hone _ _ _ (by omega) (by omega)) (fun _ => hno _ _ (by omega) (by omega))
        · refine Tot.ite (fun _ => ?_) (fun _ => hno _ _ (by omega) (by omega))
          refine Tot.ite (fun _ => ?_) (fun _ => hno _ _ (by omega) (by omega))
          refine Tot.obind (one_ok hb p5 h5 3 (by omega) (by omega)) ?_
          rintro ⟨v, p6, h6⟩ ⟨u2, u3⟩
          simp only at u2 u3
          dsimp only
          exact Tot.ite (fun _ => hone _ _ _ (by omega) (by omega)) (fun _ => hno _ _ (by omega) (by omega))
      · rintro ⟨p5, h5, z⟩ ⟨q1, q2, q3⟩
        simp only at q1 q2 q3
        refine Tot.step (fun _ => rfl) ?_
        simp only [Aac.l2, if_neg (show ¬ (m : Int) < (m : Int) by omega), next64 i m hi (by omega)]
        exact next (p5, h5, z) ⟨q1, by simp only; omega, q3⟩
    · rintro ⟨p4, h4, z⟩ ⟨t1, t2, t3⟩
      simp only at t1 t2 t3
      refine Tot.step (fun _ => rfl) ?_
      simp only [Aac.l1, if_neg (show ¬ (m : Int) < (m : Int) by omega)]
      refine Tot.ite (fun _ => Tot.now ⟨by simp only; omega, by simp only; omega, by simp only; omega, by simp only; omega, by simp only; omega⟩) (fun _ => ?_)
      refine Tot.bind (close_tot (m : Int) z (by omega)) ?_
      rintro ⟨a1, a2, a3⟩ ⟨c1, c2, c3, c4⟩
      exact Tot.now ⟨by simp only; omega, by simp only at c2 ⊢; omega, by simp only at c4 ⊢; omega, by simp only; omega, by simp only; omega⟩
theorem relation_tot {l : List Int} (hb : By l) (p h a : Int) (hp : 0 ≤ p) (hp2 : p ≤ 999000) (ha0 : 0 ≤ a) (ha : a ≤ 10) :
    Tot (fun k => Aag.f k l p h a) (fun r => 0 ≤ r.1 ∧ r.1 ≤ a ∧ (r.2.1.length : Int) = r.1 ∧ p ≤ r.2.2.1 ∧ r.2.2.1 ≤ p + 400) := by
  unfold Aag.f
  rw [wrap64_in (a + 1) (by omega) (by omega)]
  refine Tot.obind (pick_ok hb p h (a + 1) hp (by omega)) ?_
  rintro ⟨n, p1, h1⟩ ⟨n0, n1, n2, n3⟩
  simp only at n0 n1 n2 n3
  obtain ⟨m, rfl⟩ := Int.eq_ofNat_of_zero_le n0
  have hm : m ≤ 10 := by omega
  refine Tot.up (fun i (s : Int × Int × List Int) k => Aag.l0 k l s.1 s.2.1 (m : Int) s.2.2) m
    (fun i s => p ≤ s.1 ∧ s.1 ≤ p + 2 + 20 * (i : Int) ∧ s.2.2.length = i) ?_ ?_ 0 (Nat.zero_le _) (p1, h1, []) ⟨by simp only; omega, by simp only; omega, rfl⟩
  · rintro i ⟨p2, h2, z⟩ hi ⟨s1, s2, s3⟩ next
    simp only at s1 s2 s3
    refine Tot.step (fun _ => rfl) ?_
    simp only [Aag.l0, s3, if_pos (show (i : Int) < (m : Int) by omega)]
    refine Tot.up (fun j (s : Int × Int × Int) k => Aag.l1 k s.1 (j : Int) l s.2.1 s.2.2 (m : Int) z) m
      (fun j s => p ≤ s.2.1 ∧ s.2.1 ≤ p + 2 + 20 * (i : Int) + 2 * (j : Int)) ?_ ?_ 0 (Nat.zero_le _) (0, p2, h2) ⟨by simp only; omega, by simp only; omega⟩
    · rintro j ⟨x, p3, h3⟩ hj ⟨q1, q2⟩ next
      simp only at q1 q2
      refine Tot.step (fun _ => rfl) ?_
      simp only [Aag.l1, if_pos (show (j : Int) < (m : Int) by omega), if_pos (show (0 : Int) ≤ (j : Int) by omega), next64 j m hj (by omega)]
      refine Tot.obind (one_ok hb p3 h3 4 (by omega) (by omega)) ?_
      rintro ⟨v, p6, h6⟩ ⟨u2, u3⟩
      simp only at u2 u3
      dsimp only
      exact Tot.ite (fun _ => next (_, p6, h6) ⟨by simp only; omega, by simp only; omega⟩) (fun _ => next (_, p6, h6) ⟨by simp only; omega, by simp only; omega⟩)
    · rintro ⟨x, p3, h3⟩ ⟨q1, q2⟩
      simp only at q1 q2
      refine Tot.step (fun _ => rfl) ?_
      simp only [Aag.l1, if_neg (show ¬ (m : Int) < (m : Int) by omega), s3, if_pos (show i < 17592186044416 by omega)]
      exact next (p3, h3, z ++ [x]) ⟨q1, by simp only; omega, by simp [s3]⟩
  · rintro ⟨p2, h2, z⟩ ⟨s1, s2, s3⟩
    simp only at s1 s2 s3
    refine Tot.step (fun _ => rfl) ?_
    simp only [Aag.l0, s3, if_neg (show ¬ (m : Int) < (m : Int) by omega)]
    exact Tot.now ⟨by simp only; omega, by simp only; omega, by simp only; omega, by simp only; omega, by simp only; omega⟩
theorem anyOrder_tot {l : List Int} (hb : By l) (p h a : Int) (hp : 0 ≤ p) (hp2 : p ≤ 998000) (ha0 : 0 ≤ a) (ha : a ≤ 10) :
    Tot (fun k => Aak.f k l p h a) (fun r => r.2.1.length ≤ 10 ∧ p ≤ r.2.2.1 ∧ r.2.2.1 ≤ p + 900) := by
  unfold Aak.f
  refine Tot.bind (order_tot hb p h a hp (by omega) ha0 ha) ?_
  rintro ⟨n, z, p1, h1⟩ ⟨n0, n1, n2, n3, n4⟩
  simp only at n0 n1 n2 n3 n4
  refine Tot.obind (pick_ok hb p1 h1 14 (by omega) (by omega)) ?_
  rintro ⟨c, p2, h2⟩ ⟨k0, k1, k2, k3⟩
  simp only at k0 k1 k2 k3
  simp only []
  refine Tot.ite (fun _ => ?_) (fun _ => Tot.ite (fun _ => ?_) (fun _ => Tot.ite (fun _ => ?_) (fun _ => Tot.ite (fun _ => ?_) (fun _ => ?_))))
  · refine Tot.bind (relation_tot hb p2 h2 a (by omega) (by omega) ha0 ha) ?_
    rintro ⟨n', z', p', h'⟩ ⟨m0, m1, m2, m3, m4⟩
    simp only at m0 m1 m2 m3 m4
    exact Tot.now ⟨by simp only; omega, by simp only; omega, by simp only; omega⟩
  · refine Tot.obind (among_ok hb p2 h2 _ (by simp) (by omega) (by omega)) ?_
    rintro ⟨v, p', h'⟩ ⟨_, m3, m4⟩
    simp only at m3 m4
    exact Tot.now ⟨by simp only; omega, by simp only; omega, by simp only; omega⟩
  · refine Tot.ite (fun hz => ?_) (fun _ => Tot.now ⟨by simp only; omega, by simp only; omega, by simp only; omega⟩)
    refine Tot.obind (pick_ok hb p2 h2 _ (by omega) (by omega)) ?_
    rintro ⟨v, p', h'⟩ ⟨v0, v1, m3, m4⟩
    simp only at v0 v1 m3 m4
    simp only [if_pos n0]
    refine Tot.obind (among_ok hb p' h' _ (by simp) (by omega) (by omega)) ?_
    rintro ⟨v', p'', h''⟩ ⟨_, m5, m6⟩
    simp only at m5 m6
    simp only [if_pos v0]
    rw [if_pos (show v < (z.length : Int) by omega)]
    exact Tot.now ⟨by simp only [List.length_set]; omega, by simp only; omega, by simp only; omega⟩
  · refine Tot.bind (order_tot hb p2 h2 10 (by omega) (by omega) (by omega) (by omega)) ?_
    rintro ⟨n', z', p', h'⟩ ⟨m0, m1, m2, m3, m4⟩
    simp only at m0 m1 m2 m3 m4
    exact Tot.now ⟨by simp only; omega, by simp only; omega, by simp only; omega⟩
  · exact Tot.now ⟨by simp only; omega, by simp only; omega, by simp only; omega⟩
end Go.Proofs.YtfjpilcmjabikaaDoor.M
namespace Go.Proofs.YtfjpilcmjabikaaDoor.M
open Go.RowKit Go.Proofs.YtfjpilcmjabikaaDoorW.PrintMore Go.Proofs.YtfjpilcmjabikaaDoorW.PrintLast Go.Proofs.YtfjpilcmjabikaaDoorW.PrintWords Go.Proofs.YtfjpilcmjabikaaDoor.P
def clos (l : List Int) : Nat → Nat → Nat → Bool
  | 0, i, j => B l i j
  | K + 1, i, j => clos l K i j || (clos l K i K && clos l K K j)
def closAt (l : List Int) (K i a b : Nat) : Bool := if a < i then clos l (K + 1) a b else clos l K a b
theorem clos_row (l : List Int) (K b : Nat) : clos l (K + 1) K b = clos l K K b := by
  rw [clos]
  cases clos l K K K <;> cases clos l K K b <;> rfl
theorem closAt_K (l : List Int) (K i b : Nat) : closAt l K i K b = clos l K K b := by
  unfold closAt
  split
  · exact clos_row l K b
  · rfl
theorem relL_set (n : Nat) (p : Nat → Nat → Bool) (i : Nat) (hi : i < n) (q : Nat → Bool) : (relL n p).set i ((setOf n q : Nat) : Int) = relL n (fun a b => if a = i then q b else p a b) := by
  apply list_ext_getD (by simp [relL_length])
  intro a ha
  have ha : a < n := by simpa [relL_length] using ha
  by_cases h : a = i
  · subst h
    rw [List.getD_eq_getElem?_getD, List.getElem?_set_self (by rw [relL_length]; exact hi)]
    simp [relL, hi]
  · have e : ((relL n p).set i ((setOf n q : Nat) : Int)).getD a 0 = (relL n p).getD a 0 := by simp [List.getD, Ne.symm h]
    rw [e]
    simp [relL, ha, h]
theorem relL_rd (n : Nat) (p : Nat → Nat → Bool) (i : Nat) (hi : i < n) : rd (relL n p) (i : Int) = ((setOf n (p i) : Nat) : Int) := by rw [rd_nat]; simp [relL, hi]
theorem or_rows (n : Nat) (hn : n ≤ 10) (q q' : Nat → Bool) : Go.bits .or .i64 ((setOf n q : Nat) : Int) ((setOf n q' : Nat) : Int) = ((setOf n (fun b => q b || q' b) : Nat) : Int) := by
  rw [or_i64 _ _ (setOf_62 _ _ (by omega)) (setOf_62 _ _ (by omega))]
  congr 1
  apply Nat.eq_of_testBit_eq
  intro j
  rw [Nat.testBit_or, testBit_setOf, testBit_setOf, testBit_setOf]
  cases decide (j < n) <;> simp
theorem closAt_yes {n : Nat} (l : List Int) (K i : Nat) (h : clos l K i K = true) : relL n (fun a b => if a = i then (clos l K i b || clos l K K b) else closAt l K i a b) = relL n (closAt l K (i + 1)) := by
  apply relL_congr
  intro a b _ _
  unfold closAt
  by_cases h1 : a = i
  · subst h1
    rw [if_pos rfl, if_pos (by omega), clos, h, Bool.true_and]
  · rw [if_neg h1]
    by_cases h2 : a < i
    · rw [if_pos h2, if_pos (by omega)]
    · rw [if_neg h2, if_neg (by omega)]
theorem closAt_no {n : Nat} (l : List Int) (K i : Nat) (h : clos l K i K = false) : relL n (closAt l K i) = relL n (closAt l K (i + 1)) := by
  apply relL_congr
  intro a b _ _
  unfold closAt
  by_cases h1 : a = i
  · subst h1
    rw [if_neg (by omega), if_pos (by omega), clos, h, Bool.false_and, Bool.or_false]
  · by_cases h2 : a < i
    · rw [if_pos h2, if_pos (by omega)]
    · rw [if_neg h2, if_neg (by omega)]
theorem closAt_next {n : Nat} (l : List Int) (K : Nat) : relL n (closAt l K n) = relL n (closAt l (K + 1) 0) := by
  apply relL_congr
  intro a b ha _
  unfold closAt
  rw [if_pos ha, if_neg (by omega)]
def clo (n : Nat) (l : List Int) : List Int := relL n (clos l n)
theorem clo_at (n : Nat) (l : List Int) : relL n (closAt l n 0) = clo n l := by
  apply relL_congr
  intro a b _ _
  unfold closAt
  rw [if_neg (by omega)]
theorem clo_start {n : Nat} {l : List Int} (h : Rel n l) : l = relL n (closAt l 0 0) := by
  conv => lhs; rw [h.eq_relL]
  apply relL_congr
  intro a b _ _
  unfold closAt
  rw [if_neg (by omega)]
  rfl
theorem clone_eq (l : List Int) (h : l.length < 17592186044416) : Aar.f l = some l := by
  unfold Aar.f
  simp [h]
theorem closed_ev {n : Nat} {l : List Int} (h : Rel n l) : Ev (fun k => Aae.f k (n : Int) l) ((n : Int), clo n l) := by
  have hn := h.le
  have hlen := h.len
  unfold Aae.f
  rw [clone_eq l (by omega)]
  simp only [Option.bind_some]
  have h0 : Ev (fun k => Aae.l0 k (n : Int) ((0 : Nat) : Int) (n : Int) l (n : Int) (relL n (closAt l 0 0))) ((n : Int), clo n l) := by
    refine Ev.up (fun K k => Aae.l0 k (n : Int) (K : Int) (n : Int) l (n : Int) (relL n (closAt l K 0))) n ?_ ?_
    · intro K hK next
      refine Ev.step (fun _ => rfl) ?_
      simp only [Aae.l0, if_pos (show (K : Int) < (n : Int) by omega)]
      refine Ev.up (fun i k => Aae.l1 k (K : Int) (n : Int) (K : Int) (n : Int) (i : Int) (n : Int) l (n : Int) (relL n (closAt l K i))) n ?_ ?_
      · intro i hi next
        have hr := relL_rel n hn (closAt l K i)
        have eb : B (relL n (closAt l K i)) i K = clos l K i K := by
          rw [relL_B]
          unfold closAt
          simp [hi, hK]
        refine Ev.step (fun _ => rfl) ?_
        simp only [Aae.l1, if_pos (show (i : Int) < (n : Int) by omega), better_eq hr n i K hi (by omega), eb, Option.bind_some, next64 i n hi (by omega)]
        cases hc : clos l K i K with
        | false =>
          simp only [Bool.false_eq_true, if_false]
          rw [closAt_no l K i hc]
          exact next
        | true =>
          simp only [if_true, if_pos (show (0 : Int) ≤ (i : Int) by omega), relL_length, if_pos (show (i : Int) < (n : Int) by omega), if_pos (show (0 : Int) ≤ (K : Int) by omega), if_pos (show (K : Int) < (n : Int) by omega), relL_rd n _ i hi, relL_rd n _ K hK, or_rows n hn, Int.toNat_natCast]
          rw [relL_set n _ i hi]
          have e : relL n (fun a b => if a = i then (closAt l K i i b || closAt l K i K b) else closAt l K i a b) = relL n (closAt l K (i + 1)) := by
            rw [← closAt_yes l K i hc]
            apply relL_congr
            intro a b _ _
            by_cases h1 : a = i
            · rw [if_pos h1, if_pos h1, closAt_K]
              unfold closAt
              rw [if_neg (by omega)]
            · rw [if_neg h1, if_neg h1]
          rw [e]
          exact next
      · refine Ev.step (fun _ => rfl) ?_
        simp only [Aae.l1, if_neg (show ¬ (n : Int) < (n : Int) by omega), next64 K n hK (by omega)]
        rw [closAt_next]
        exact next
    · refine Ev.step (fun _ => rfl) ?_
      simp only [Aae.l0, if_neg (show ¬ (n : Int) < (n : Int) by omega)]
      rw [clo_at]
      exact Ev.now _
  rw [← clo_start h] at h0
  exact h0
theorem CloseRelation_ev (n : Int) (l : List Int) (hl : l.length ≤ 140737488355328) : Ev (fun k => Aal.f k n l) (if isRel n l then (n, clo n.toNat l, true) else (0, [], false)) := by
  unfold Aal.f
  refine Ev.bind (IsRelation_ev n l hl) ?_
  cases hr : isRel n l with
  | false => simp only [Bool.false_eq_true, if_false]; exact Ev.now _
  | true =>
    obtain ⟨m, rfl, h⟩ := isRel_iff.1 hr
    simp only [if_true, Int.toNat_natCast]
    exact Ev.bind (closed_ev h) (Ev.now _)
theorem sCloseRelation_ev (n : Int) (l : List Int) (hl : l.length ≤ 140737488355328) : Ev (fun k => Aad.f k n l) (if isRel n l then (n, clo n.toNat l, true) else (0, [], false)) := by
  unfold Aad.f
  refine Ev.bind (orRelation_ev n l hl) ?_
  cases hr : isRel n l with
  | false => simp only [Bool.false_eq_true, if_false]; exact Ev.now _
  | true =>
    obtain ⟨n, rfl, h⟩ := isRel_iff.1 hr
    have hn := h.le
    have hlen := h.len
    simp only [if_true, l1Own_eq l (by omega), Option.bind_some, hlen, Int.toNat_natCast]
    have h0 : Ev (fun k => Aad.l0 k (n : Int) ((0 : Nat) : Int) (n : Int) (relL n (closAt l 0 0))) ((n : Int), clo n l, true) := by
      refine Ev.up (fun K k => Aad.l0 k (n : Int) (K : Int) (n : Int) (relL n (closAt l K 0))) n ?_ ?_
      · intro K hK next
        refine Ev.step (fun _ => rfl) ?_
        simp only [Aad.l0, if_pos (show (K : Int) < (n : Int) by omega), relL_length]
        refine Ev.up (fun i k => Aad.l1 k (K : Int) (n : Int) (K : Int) (n : Int) (i : Int) (n : Int) (relL n (closAt l K i))) n ?_ ?_
        · intro i hi next
          have eb : (setOf n (closAt l K i i)).testBit K = clos l K i K := by
            rw [testBit_setOf]
            unfold closAt
            simp [hK]
          refine Ev.step (fun _ => rfl) ?_
          simp only [Aad.l1, if_pos (show (i : Int) < (n : Int) by omega), if_pos (show (0 : Int) ≤ (i : Int) by omega), relL_length, relL_rd n _ i hi, orHas_eq _ K (show K ≤ 64 by omega), eb, Option.bind_some, next64 i n hi (by omega)]
          cases hc : clos l K i K with
          | false =>
            simp only [Bool.false_eq_true, if_false]
            rw [closAt_no l K i hc]
            exact next
          | true =>
            simp only [if_true, if_pos (show (0 : Int) ≤ (K : Int) by omega), if_pos (show (K : Int) < (n : Int) by omega), relL_rd n _ K hK, or_rows n hn, Int.toNat_natCast]
            rw [relL_set n _ i hi]
            have e : relL n (fun a b => if a = i then (closAt l K i i b || closAt l K i K b) else closAt l K i a b) = relL n (closAt l K (i + 1)) := by
              rw [← closAt_yes l K i hc]
              apply relL_congr
              intro a b _ _
              by_cases h1 : a = i
              · rw [if_pos h1, if_pos h1, closAt_K]
                unfold closAt
                rw [if_neg (by omega)]
              · rw [if_neg h1, if_neg h1]
            rw [e]
            exact next
        · refine Ev.step (fun _ => rfl) ?_
          simp only [Aad.l1, if_neg (show ¬ (n : Int) < (n : Int) by omega), next64 K n hK (by omega)]
          rw [closAt_next]
          exact next
      · refine Ev.step (fun _ => rfl) ?_
        simp only [Aad.l0, if_neg (show ¬ (n : Int) < (n : Int) by omega)]
        rw [clo_at]
        exact Ev.now _
    rw [← clo_start h] at h0
    exact h0
theorem clos_trans (l : List Int) : ∀ K i j m, m < K → clos l K i m = true → clos l K m j = true → clos l K i j = true := by
  intro K
  induction K with
  | zero => intro i j m h; omega
  | succ K ih =>
    intro i j m hm h1 h2
    rw [clos, Bool.or_eq_true, Bool.and_eq_true] at h1 h2 ⊢
    by_cases hK : m = K
    · subst hK
      have a1 : clos l m i m = true := h1.elim id And.left
      have a2 : clos l m m j = true := h2.elim id And.right
      exact .inr ⟨a1, a2⟩
    · have hlt : m < K := by omega
      rcases h1 with h1 | ⟨h1, h1'⟩ <;> rcases h2 with h2 | ⟨h2, h2'⟩
      · exact .inl (ih i j m hlt h1 h2)
      · exact .inr ⟨ih i K m hlt h1 h2, h2'⟩
      · exact .inr ⟨h1, ih K j m hlt h1' h2⟩
      · exact .inr ⟨h1, h2'⟩
theorem clos_mono (l : List Int) (K i j : Nat) (h : B l i j = true) : clos l K i j = true := by
  induction K with
  | zero => exact h
  | succ K ih => rw [clos, ih]; rfl
theorem clos_within (l : List Int) (T : Nat → Nat → Bool) (hT : ∀ i j k, T i j = true → T j k = true → T i k = true) (hl : ∀ i j, B l i j = true → T i j = true) : ∀ K i j, clos l K i j = true → T i j = true := by
  intro K
  induction K with
  | zero => exact hl
  | succ K ih =>
    intro i j h
    rw [clos, Bool.or_eq_true, Bool.and_eq_true] at h
    rcases h with h | ⟨h1, h2⟩
    · exact ih i j h
    · exact hT i K j (ih i K h1) (ih K j h2)
theorem clo_rel {n : Nat} {l : List Int} (h : Rel n l) : Rel n (clo n l) := relL_rel n h.le _
theorem clo_B {n : Nat} {l : List Int} (h : Rel n l) (i j : Nat) : B (clo n l) i j = clos l n i j := by
  unfold clo
  rw [relL_B]
  cases hc : clos l n i j with
  | false => simp
  | true =>
    have := clos_within l (fun i j => decide (i < n) && decide (j < n)) (fun i j k h1 h2 => by simp at h1 h2 ⊢; omega) (fun i j hb => by simp [h.B_lt hb, h.B_lt' hb]) n i j hc
    rw [Bool.and_eq_true] at this
    rw [this.1, this.2]; rfl
theorem clo_trans {n : Nat} {l : List Int} (h : Rel n l) (i j k : Nat) (h1 : B (clo n l) i j = true) (h2 : B (clo n l) j k = true) : B (clo n l) i k = true := by
  have hj := (clo_rel h).B_lt h1
  rw [clo_B h] at h1 h2 ⊢
  exact clos_trans l n i k j hj h1 h2
theorem clo_sub {n : Nat} {l : List Int} (h : Rel n l) (i j : Nat) (hb : B l i j = true) : B (clo n l) i j = true := by rw [clo_B h]; exact clos_mono l n i j hb
theorem clo_least {n : Nat} {l : List Int} (h : Rel n l) (T : Nat → Nat → Bool) (hT : ∀ i j k, T i j = true → T j k = true → T i k = true) (hl : ∀ i j, B l i j = true → T i j = true) (i j : Nat) (hb : B (clo n l) i j = true) : T i j = true := by
  rw [clo_B h] at hb
  exact clos_within l T hT hl n i j hb
theorem clo_fix {n : Nat} {l : List Int} (h : Rel n l) (hT : ∀ i j k, B l i j = true → B l j k = true → B l i k = true) : clo n l = l := by
  apply Rel.ext (clo_rel h) h
  intro i j _ _
  rw [Bool.eq_iff_iff]
  exact ⟨fun hb => clo_least h (B l) hT (fun _ _ h => h) i j hb, clo_sub h i j⟩
end Go.Proofs.YtfjpilcmjabikaaDoor.M
namespace Go.Proofs.YtfjpilcmjabikaaDoor.P
open Go.RowKit Go.Proofs.YtfjpilcmjabikaaDoorW.PrintWords Go.Proofs.YtfjpilcmjabikaaDoorW.PrintLast Go.Proofs.YtfjpilcmjabikaaDoorW.PrintMore
open Bool renaming true → T, false → F
open List renaming setIfInBounds_toArray → L_, set_cons_zero → M_, set_cons_succ → N_, map_toArray → P_, map_cons → Q_, map_nil → R_, length_drop → S_, length_take → U_
open Aside0 renaming mk → A_
attribute [local go_sem] max2_int min2_int max_two min_two max_three min_three max_four min_four
set_option linter.unusedVariables false
set_option linter.unusedSimpArgs false
attribute [local go_sem] fldOrder_0 fldOrder_1
def Abf.f (k : Nat) (a0_0 : Int) (l0_1 : List Int) (l1 : List Int) : Option (Bool) := (Aap.f k l1 0 (wrap64 (a0_0 - 1))).bind fun t965 => (some t965)
def Abg.f (a0_0 : Int) (l0_1 : List Int) : Option (Int) := if 0 ≤ a0_0 then (some (wrap64 ((shl .i64 1 a0_0) - 1))) else (none)
def Abb.l0 : Nat → List Int → Int → Int → Int → List Int → Int → List Int → Option (List Int)
 | 0,_,_,_,_,_,_,_=>none
 | k + 1,x3,x10,x11,x853000,x853001,x861000,x861001=>if x11 < x10 then ((Abg.f x853000 x853001).bind fun t861=>(if 0 ≤ x11 then (if x11 < (x853001.length : Int) then (if x11 < (x861001.length : Int) then (if x3.length < 17592186044416 then (Abb.l0 k (x3 ++ [Go.bits .andNot .i64 (Go.bits .andNot .i64 (Go.bits .andNot .i64 t861 (rd x853001 x11)) (rd x861001 x11)) (shl .i64 1 x11)]) x10 (wrap64 (x11 + 1)) x853000 x853001 x861000 x861001) else (none)) else (none)) else (none)) else (none))) else (some x3)
def Abb.f (k : Nat) (a0_0 : Int) (l0_1 : List Int) : Option (List Int) := (Aa6.f k a0_0 l0_1).bind fun bt856 => (Abb.l0 k (([] : List Int)) a0_0 0 a0_0 l0_1 bt856.1 bt856.2)
def Abe.l0 : Nat → Int → Int → List Int → Int → Int → Option (Int)
 | 0,_,_,_,_,_=>none
 | k + 1,x1,x5,x9,x10,x11=>if x11 < x10 then (if 0 ≤ x11 then (if x11 < (x9.length : Int) then ((Aa2.f (rd x9 x11) x1).bind fun t817=>(if t817 = true then (Abe.l0 k x1 (Go.bits .or .i64 x5 (shl .i64 1 x11)) x9 x10 (wrap64 (x11 + 1))) else (Abe.l0 k x1 x5 x9 x10 (wrap64 (x11 + 1))))) else (none)) else (none)) else (some x5)
def Abe.f (k : Nat) (a0_0 : Int) (l0_1 : List Int) (a1 : Int) : Option (Int) := Abe.l0 k a1 0 l0_1 (l0_1.length : Int) 0
def Abh.f (k : Nat) (a0_0 : Int) (l0_1 : List Int) (a1 : Int) : Option (Int × Bool) := (Aav.f k a0_0 l0_1).bind fun t974 => (if t974 = true then ((Abf.f k a0_0 l0_1 (([a1] : List Int))).bind fun t978 => (if t978 = true then ((Abb.f k a0_0 l0_1).bind fun t979 => (if 0 ≤ a1 then (if a1 < (t979.length : Int) then (some (rd t979 a1, true)) else (none)) else (none))) else (some (0, false)))) else (some (0, false)))
end Go.Proofs.YtfjpilcmjabikaaDoor.P
namespace Go.Proofs.YtfjpilcmjabikaaDoor.P
open Go.RowKit Go.Proofs.YtfjpilcmjabikaaDoorW.PrintWords Go.Proofs.YtfjpilcmjabikaaDoorW.PrintLast Go.Proofs.YtfjpilcmjabikaaDoorW.PrintMore
open Bool renaming true → T, false → F
open List renaming setIfInBounds_toArray → L_, set_cons_zero → M_, set_cons_succ → N_, map_toArray → P_, map_cons → Q_, map_nil → R_, length_drop → S_, length_take → U_
open Aside0 renaming mk → A_
attribute [local go_sem] max2_int min2_int max_two min_two max_three min_three max_four min_four
set_option linter.unusedVariables false
set_option linter.unusedSimpArgs false
attribute [local go_sem] fldOrder_0 fldOrder_1
def Abi.f (k : Nat) (a0_0 : Int) (l0_1 : List Int) (a1 : Int) (a2 : Int) : Option (Bool × Bool) := (Aav.f k a0_0 l0_1).bind fun t967 => (if t967 = true then ((Abf.f k a0_0 l0_1 (([a1, a2] : List Int))).bind fun t971 => (if t971 = true then ((Aao.f a0_0 l0_1 a1 a2).bind fun t972 => (some (t972, true))) else (some (false, false)))) else (some (false, false)))
end Go.Proofs.YtfjpilcmjabikaaDoor.P
namespace Go.Proofs.YtfjpilcmjabikaaDoor.M
open Go.RowKit Go.Proofs.YtfjpilcmjabikaaDoorW.PrintMore Go.Proofs.YtfjpilcmjabikaaDoorW.PrintLast Go.Proofs.YtfjpilcmjabikaaDoorW.PrintWords Go.Proofs.YtfjpilcmjabikaaDoor.P
def mir (n : Nat) (l : List Int) : List Int := relL n fun i j => B l j i
theorem mir_rel {n : Nat} {l : List Int} (h : Rel n l) : Rel n (mir n l) := relL_rel n h.le _
theorem mir_B {n : Nat} {l : List Int} (h : Rel n l) (i j : Nat) : B (mir n l) i j = B l j i := by
  unfold mir
  rw [relL_B]
  cases hb : B l j i with
  | false => simp
  | true => simp [h.B_lt hb, h.B_lt' hb]
theorem mirror_ev {n : Nat} {l : List Int} (h : Rel n l) : Ev (fun k => Aa6.f k (n : Int) l) ((n : Int), mir n l) := by
  have hn := h.le
  unfold Aa6.f
  refine Ev.bind (relation_ev n (by omega) (fun _ x y => Aa5.f x y (n : Int) l) (fun i j => B l j i) ?_) (Ev.now _)
  intro i j hi hj
  refine Ev.const ?_
  unfold Aa5.f
  rw [better_eq h n j i hj (by omega)]
  rfl
theorem rel_is {n : Nat} {l : List Int} (h : Rel n l) : isRel n l = true := isRel_iff.2 ⟨n, rfl, h⟩
theorem pIn_eq (s j : Nat) (hj : j ≤ 64) : Aa8.f (s : Int) (j : Int) = some (s.testBit j) := by
  unfold Aa8.f
  rw [if_pos (by omega), has_mod _ _ (by omega) hj, bit_cast]
theorem pSame_ev (l l' : List Int) (hl : l.length ≤ 140737488355328) : Ev (fun k => Aa1.f k l l') (decide (l = l')) := by
  unfold Aa1.f
  by_cases h : (l.length : Int) = (l'.length : Int)
  · simp only [if_pos h]
    refine Ev.to (Ev.all (fun i k => Aa1.l0 k l l' (l.length : Int) (i : Int)) l.length (fun i => decide (l.getD i 0 = l'.getD i 0)) ?_ ?_ ?_) ?_
    · intro i r hi hp next
      refine Ev.step (fun _ => rfl) ?_
      simp only [Aa1.l0, if_pos (show (i : Int) < (l.length : Int) by omega), if_pos (show (0 : Int) ≤ (i : Int) by omega), if_pos (show (i : Int) < (l'.length : Int) by omega), rd_nat, if_pos (of_decide_eq_true hp), next64 i l.length hi (by omega)]
      exact next
    · intro i hi hp
      refine Ev.step (fun _ => rfl) ?_
      simp only [Aa1.l0, if_pos (show (i : Int) < (l.length : Int) by omega), if_pos (show (0 : Int) ≤ (i : Int) by omega), if_pos (show (i : Int) < (l'.length : Int) by omega), rd_nat, if_neg (of_decide_eq_false hp)]
      exact Ev.now _
    · refine Ev.step (fun _ => rfl) ?_
      simp only [Aa1.l0, if_neg (show ¬ (l.length : Int) < (l.length : Int) by omega)]
      exact Ev.now _
    · rw [Bool.eq_iff_iff, allB_iff, decide_eq_true_iff]
      constructor
      · intro H
        exact list_ext_getD (by omega) fun i hi => of_decide_eq_true (H i hi)
      · rintro rfl i _
        simp
  · simp only [if_neg h]
    refine Ev.to (Ev.now _) ?_
    symm
    rw [decide_eq_false_iff_not]
    rintro rfl
    exact h rfl
theorem pSameOrder_ev (n m : Int) (l l' : List Int) (hl : l.length ≤ 140737488355328) : Ev (fun k => Aas.f k n l m l') (decide (n = m ∧ l = l')) := by
  unfold Aas.f
  by_cases h : n = m
  · simp only [if_pos h]
    refine Ev.bind (pSame_ev l l' hl) (Ev.to (Ev.now _) (by simp [h]))
  · simp only [if_neg h]
    exact Ev.to (Ev.now _) (by simp [h])
end Go.Proofs.YtfjpilcmjabikaaDoor.M
namespace Go.Proofs.YtfjpilcmjabikaaDoor.M
open Go.RowKit Go.Proofs.YtfjpilcmjabikaaDoorW.PrintMore Go.Proofs.YtfjpilcmjabikaaDoorW.PrintLast Go.Proofs.YtfjpilcmjabikaaDoorW.PrintWords Go.Proofs.YtfjpilcmjabikaaDoor.P
def covP (n : Nat) (l : List Int) (i j : Nat) : Bool := B l i j && !(decide (∃ k, k < n ∧ B l i k = true ∧ B l k j = true))
def cov (n : Nat) (l : List Int) : List Int := relL n (covP n l)
theorem CoversOf_ev (n : Int) (l : List Int) (hl : l.length ≤ 140737488355328) : Ev (fun k => Abc.f k n l) (if isOrd n l then (n, cov n.toNat l, true) else (0, [], false)) := by
  unfold Abc.f
  refine Ev.bind (IsOrder_ev n l hl) ?_
  cases ho : isOrd n l with
  | false => simp only [Bool.false_eq_true, if_false]; exact Ev.now _
  | true =>
    obtain ⟨n, rfl, o⟩ := isOrd_iff.1 ho
    have hn := o.le
    have h := o.toRel
    have hm := mir_rel h
    simp only [if_true, Int.toNat_natCast]
    refine Ev.bind (relation_ev n (by omega) (fun k x y => Aan.f k x y (n : Int) l) (covP n l) ?_) (Ev.now _)
    intro i j hi hj
    unfold Aan.f
    simp only [if_pos (show (0 : Int) ≤ (i : Int) by omega), h.len, if_pos (show (i : Int) < (n : Int) by omega)]
    refine Ev.bind (mirror_ev h) ?_
    simp only [if_pos (show (0 : Int) ≤ (j : Int) by omega), hm.len, if_pos (show (j : Int) < (n : Int) by omega), better_eq h n i j hi (by omega), Option.bind_some, h.rd, hm.rd, and_i64 _ _ (h.row_62 i) (hm.row_62 j)]
    unfold covP
    cases hb : B l i j with
    | false => simp only [Bool.false_eq_true, if_false, Bool.false_and]; exact Ev.now _
    | true =>
      simp only [if_true, Bool.true_and]
      refine Ev.to (Ev.now _) ?_
      rw [Bool.eq_iff_iff, beq_iff_eq, Bool.not_eq_true', decide_eq_false_iff_not]
      constructor
      · rintro h0 ⟨k, _, h1, h2⟩
        have h0 : row l i &&& row (mir n l) j = 0 := by omega
        have := Nat.testBit_and (row l i) (row (mir n l) j) k
        rw [h0, show (row l i).testBit k = B l i k from rfl, show (row (mir n l) j).testBit k = B (mir n l) j k from rfl, mir_B h, h1, h2] at this
        simp at this
      · intro hno
        have : row l i &&& row (mir n l) j = 0 := by
          apply Nat.eq_of_testBit_eq
          intro k
          rw [Nat.testBit_and, show (row l i).testBit k = B l i k from rfl, show (row (mir n l) j).testBit k = B (mir n l) j k from rfl, mir_B h, Nat.zero_testBit]
          cases h1 : B l i k with
          | false => rfl
          | true =>
            cases h2 : B l k j with
            | false => rfl
            | true => exact absurd ⟨k, h.B_lt h1, h1, h2⟩ hno
        omega
def farS (n : Nat) (l : List Int) (s : Nat) : Nat → Nat
  | 0 => 0
  | q + 1 => farS n l s q ||| row l ((elems n s).getD q 0)
theorem farS_bit {n : Nat} (l : List Int) (s q k : Nat) : (farS n l s q).testBit k = decide (∃ p, p < q ∧ B l ((elems n s).getD p 0) k = true) := by
  induction q with
  | zero => simp [farS]
  | succ q ih =>
    rw [farS, Nat.testBit_or, ih, Bool.eq_iff_iff, Bool.or_eq_true, decide_eq_true_iff, decide_eq_true_iff]
    constructor
    · rintro (⟨p, hp, hb⟩ | hb)
      · exact ⟨p, by omega, hb⟩
      · exact ⟨q, by omega, hb⟩
    · rintro ⟨p, hp, hb⟩
      by_cases h : p = q
      · subst h; exact .inr hb
      · exact .inl ⟨p, by omega, hb⟩
theorem farS_62 {n : Nat} {l : List Int} (h : Rel n l) (s q : Nat) : farS n l s q < 9223372036854775808 := by
  have : farS n l s q < 2 ^ n := by
    induction q with
    | zero => exact Nat.two_pow_pos n
    | succ q ih => exact Nat.or_lt_two_pow ih (h.row_lt _)
  exact lt62 this (by have := h.le; omega)
theorem sCoversOf_ev (n : Int) (l : List Int) (hl : l.length ≤ 140737488355328) : Ev (fun k => Aaj.f k n l) (if isOrd n l then (n, cov n.toNat l, true) else (0, [], false)) := by
  unfold Aaj.f
  refine Ev.bind (orGood_ev n l hl) ?_
  cases ho : isOrd n l with
  | false => simp only [Bool.false_eq_true, if_false]; exact Ev.now _
  | true =>
    obtain ⟨n, rfl, o⟩ := isOrd_iff.1 ho
    have hn := o.le
    have h := o.toRel
    simp only [if_true, Int.toNat_natCast, h.len]
    have hrow : ∀ i, i < n → diff (row l i) (farS n l (row l i) (elems n (row l i)).length) = setOf n (covP n l i) := by
      intro i hi
      apply Nat.eq_of_testBit_eq
      intro j
      rw [testBit_diff, testBit_setOf, farS_bit]
      unfold covP
      show (B l i j && _) = _
      cases hb : B l i j with
      | false => simp
      | true =>
        have hj := h.B_lt hb
        rw [decide_eq_true hj, Bool.true_and, Bool.true_and, Bool.true_and]
        congr 1
        rw [decide_eq_decide]
        constructor
        · rintro ⟨p, hp, hpb⟩
          have hm : (elems n (row l i)).getD p 0 ∈ elems n (row l i) := by simp [hp]
          exact ⟨_, (mem_elems.1 hm).1, (mem_elems.1 hm).2, hpb⟩
        · rintro ⟨k, hk, h1, h2⟩
          obtain ⟨p, hp, e⟩ := List.getElem_of_mem (mem_elems.2 ⟨hk, h1⟩)
          exact ⟨p, hp, by rw [show (elems n (row l i)).getD p 0 = k by simp [hp, e]]; exact h2⟩
    have h0 : Ev (fun k => Aaj.l0 k l (n : Int) ((0 : Nat) : Int) (n : Int) l (n : Int) ((List.range 0).map fun i => ((setOf n (covP n l i) : Nat) : Int))) ((n : Int), cov n l, true) := by
      refine Ev.up (fun i k => Aaj.l0 k l (n : Int) (i : Int) (n : Int) l (n : Int) ((List.range i).map fun i => ((setOf n (covP n l i) : Nat) : Int))) n ?_ ?_
      · intro i hi next
        refine Ev.step (fun _ => rfl) ?_
        simp only [Aaj.l0, if_pos (show (i : Int) < (n : Int) by omega), if_pos (show (0 : Int) ≤ (i : Int) by omega), h.len, h.rd]
        refine Ev.bind (orList_ev n (by omega) _ (h.row_lt i)) ?_
        have hE := elems_length_le n (row l i)
        rw [ints_length]
        refine Ev.up (fun q k => Aaj.l1 k ((row l i : Nat) : Int) ((farS n l (row l i) q : Nat) : Int) l (n : Int) (i : Int) (ints (elems n (row l i))) ((elems n (row l i)).length : Int) (q : Int) (n : Int) l (n : Int) ((List.range i).map fun i => ((setOf n (covP n l i) : Nat) : Int))) (elems n (row l i)).length ?_ ?_
        · intro q hq next
          have hmem : (elems n (row l i)).getD q 0 ∈ elems n (row l i) := by simp [hq]
          have hlt := (mem_elems.1 hmem).1
          have e0 : rd (ints (elems n (row l i))) (q : Int) = (((elems n (row l i)).getD q 0 : Nat) : Int) := by rw [rd_nat, ints_getD _ _ hq]
          refine Ev.step (fun _ => rfl) ?_
          simp only [Aaj.l1, if_pos (show (q : Int) < ((elems n (row l i)).length : Int) by omega), if_pos (show (0 : Int) ≤ (q : Int) by omega), ints_length, e0, if_pos (show (0 : Int) ≤ (((elems n (row l i)).getD q 0 : Nat) : Int) by omega), h.len, if_pos (show (((elems n (row l i)).getD q 0 : Nat) : Int) < (n : Int) by omega), h.rd, or_i64 _ _ (farS_62 h _ _) (h.row_62 _), next64 q _ hq (by omega)]
          exact next
        · refine Ev.step (fun _ => rfl) ?_
          simp only [Aaj.l1, if_neg (show ¬ ((elems n (row l i)).length : Int) < ((elems n (row l i)).length : Int) by omega), List.length_map, List.length_range, if_pos (show i < 17592186044416 by omega), andNot_i64 _ _ (h.row_62 i) (farS_62 h _ _), hrow i hi, next64 i n hi (by omega)]
          simpa [List.range_succ] using next
      · refine Ev.step (fun _ => rfl) ?_
        simp only [Aaj.l0, if_neg (show ¬ (n : Int) < (n : Int) by omega)]
        exact Ev.now _
    exact h0
end Go.Proofs.YtfjpilcmjabikaaDoor.M
namespace Go.Proofs.YtfjpilcmjabikaaDoor.M
open Go.RowKit Go.Proofs.YtfjpilcmjabikaaDoorW.PrintMore Go.Proofs.YtfjpilcmjabikaaDoorW.PrintLast Go.Proofs.YtfjpilcmjabikaaDoorW.PrintWords Go.Proofs.YtfjpilcmjabikaaDoor.P
theorem cov_rel {n : Nat} {l : List Int} (h : Rel n l) : Rel n (cov n l) := relL_rel n h.le _
theorem cov_B {n : Nat} {l : List Int} (h : Rel n l) (i j : Nat) : B (cov n l) i j = covP n l i j := by
  unfold cov
  rw [relL_B]
  cases hc : covP n l i j with
  | false => simp
  | true =>
    have hb : B l i j = true := by unfold covP at hc; rw [Bool.and_eq_true] at hc; exact hc.1
    simp [h.B_lt hb, h.B_lt' hb]
theorem covP_iff {n : Nat} {l : List Int} (i j : Nat) : covP n l i j = true ↔ B l i j = true ∧ ¬ ∃ k, k < n ∧ B l i k = true ∧ B l k j = true := by
  unfold covP
  rw [Bool.and_eq_true, Bool.not_eq_true', decide_eq_false_iff_not]
def between (n : Nat) (l : List Int) (i j : Nat) : Nat := ((List.range n).filter fun k => B l i k && B l k j).length
theorem between_lt {n : Nat} {p q : Nat → Bool} (h : ∀ k, p k = true → q k = true) (x : Nat) (hx : x < n) (h1 : p x = false) (h2 : q x = true) : ((List.range n).filter p).length < ((List.range n).filter q).length := by
  have key : ∀ (L : List Nat), (L.filter p).length ≤ (L.filter q).length := by
    intro L
    induction L with
    | nil => simp
    | cons a L ih =>
      rw [List.filter_cons, List.filter_cons]
      cases hp : p a with
      | false =>
        cases hq : q a with
        | false => simpa using ih
        | true => simp; omega
      | true => simpa [h a hp] using ih
  have : ∀ (L : List Nat), x ∈ L → (L.filter p).length < (L.filter q).length := by
    intro L
    induction L with
    | nil => simp
    | cons a L ih =>
      intro hm
      have hk := key L
      rw [List.filter_cons, List.filter_cons]
      rcases List.mem_cons.1 hm with rfl | hm
      · simp [h1, h2]; omega
      · have := ih hm
        cases hp : p a with
        | false =>
          cases hq : q a with
          | false => simpa using this
          | true => simp; omega
        | true => simpa [h a hp] using this
  exact this _ (List.mem_range.2 hx)
theorem cov_all {n : Nat} {l : List Int} (o : Ord n l) : ∀ m i j, between n l i j = m → B l i j = true → B (clo n (cov n l)) i j = true := by
  have hc := cov_rel o.toRel
  intro m
  induction m using Nat.strongRecOn with
  | _ m ih =>
    intro i j hm hb
    by_cases hk : ∃ k, k < n ∧ B l i k = true ∧ B l k j = true
    · obtain ⟨k, hkn, h1, h2⟩ := hk
      refine clo_trans hc i k j (ih (between n l i k) ?_ i k rfl h1) (ih (between n l k j) ?_ k j rfl h2)
      · rw [← hm]
        refine between_lt (fun x hx => ?_) k hkn ?_ ?_
        · rw [Bool.and_eq_true] at hx ⊢
          exact ⟨hx.1, o.trans x k j hx.2 h2⟩
        · rw [o.irr k, Bool.and_false]
        · rw [h1, h2]; rfl
      · rw [← hm]
        refine between_lt (fun x hx => ?_) k hkn ?_ ?_
        · rw [Bool.and_eq_true] at hx ⊢
          exact ⟨o.trans i k x h1 hx.1, hx.2⟩
        · rw [o.irr k, Bool.false_and]
        · rw [h1, h2]; rfl
    · exact clo_sub hc i j (by rw [cov_B o.toRel, covP_iff]; exact ⟨hb, hk⟩)
theorem clo_cov {n : Nat} {l : List Int} (o : Ord n l) : clo n (cov n l) = l := by
  have hc := cov_rel o.toRel
  refine (clo_rel hc).ext o.toRel fun i j _ _ => ?_
  rw [Bool.eq_iff_iff]
  refine ⟨fun h => clo_least hc (B l) o.trans (fun i j h => ?_) i j h, fun h => cov_all o _ i j rfl h⟩
  rw [cov_B o.toRel, covP_iff] at h
  exact h.1
theorem clo_less {n : Nat} {l m : List Int} (o : Ord n l) (hm : Rel n m) (i j : Nat) (hij : covP n l i j = true) (h : ∀ a b, B m a b = true → covP n l a b = true ∧ ¬ (a = i ∧ b = j)) : B (clo n m) i j = false := by
  obtain ⟨_, hno⟩ := covP_iff (n := n) i j |>.1 hij
  cases hc : B (clo n m) i j with
  | false => rfl
  | true =>
    have := clo_least hm (fun a b => B l a b && !decide (a = i ∧ b = j)) (fun a b c h1 h2 => ?_) (fun a b hb => ?_) i j hc
    · simp at this
    · rw [Bool.and_eq_true, Bool.not_eq_true', decide_eq_false_iff_not] at h1 h2 ⊢
      refine ⟨o.trans a b c h1.1 h2.1, ?_⟩
      rintro ⟨rfl, rfl⟩
      exact hno ⟨b, o.toRel.B_lt h1.1, h1.1, h2.1⟩
    · obtain ⟨h1, h2⟩ := h a b hb
      rw [Bool.and_eq_true, Bool.not_eq_true', decide_eq_false_iff_not]
      exact ⟨(covP_iff a b |>.1 h1).1, h2⟩
theorem clo_loops {n : Nat} {l : List Int} (h : Rel n l) : isOrd n (clo n l) = true ↔ ∀ i, i < n → B (clo n l) i i = false := by
  rw [isOrd_iff]
  constructor
  · rintro ⟨m, _, o⟩ i _
    exact o.irr i
  · intro H
    refine ⟨n, rfl, clo_rel h, fun i => ?_, clo_trans h⟩
    cases hb : B (clo n l) i i with
    | false => rfl
    | true => rw [H i ((clo_rel h).B_lt hb)] at hb; cases hb
end Go.Proofs.YtfjpilcmjabikaaDoor.M
namespace Go.Proofs.YtfjpilcmjabikaaDoor.Pure
open Go.RowKit Go.Proofs.YtfjpilcmjabikaaDoorW.PrintMore Go.Proofs.YtfjpilcmjabikaaDoorW.PrintLast Go.Proofs.YtfjpilcmjabikaaDoorW.PrintWords Go.Proofs.YtfjpilcmjabikaaDoor.P Go.Proofs.YtfjpilcmjabikaaDoor.M
set_option maxRecDepth 4000
theorem DrawCloseRelation_tot {l : List Int} (hb : By l) : Tot (fun k => Aa3.f k l) (fun r => r.2.length ≤ 10) := by
  unfold Aa3.f
  refine Tot.obind (one_ok hb 0 0 2 (by omega) (by omega)) ?_
  rintro ⟨b, p, h⟩ ⟨p0, p1⟩
  simp only at p0 p1
  simp only []
  refine Tot.ite (fun _ => ?_) (fun _ => ?_)
  · refine Tot.bind (relation_tot hb p h 6 (by omega) (by omega) (by omega) (by omega)) ?_
    rintro ⟨n, z, p', h'⟩ ⟨a1, a2, a3, _, _⟩
    simp only at a1 a2 a3
    exact Tot.now (by simp only; omega)
  · refine Tot.bind (anyOrder_tot hb p h 6 (by omega) (by omega) (by omega) (by omega)) ?_
    rintro ⟨n, z, p', h'⟩ ⟨a1, _, _⟩
    simp only at a1
    exact Tot.now a1
theorem without_all : ((List.range 1024).all fun s => (List.range 10).all fun j => !s.testBit j || s - 2 ^ j == s ^^^ 2 ^ j) = true := by decide +kernel
theorem without {n : Nat} (hn : n ≤ 10) (q : Nat → Bool) (j : Nat) (hj : j < n) (hq : q j = true) : setOf n q - 2 ^ j = setOf n fun b => q b && decide (b ≠ j) := by
  have hs : setOf n q < 1024 := Nat.lt_of_lt_of_le (setOf_lt n q) (Nat.pow_le_pow_right (by decide) hn)
  have hb : (setOf n q).testBit j = true := by rw [testBit_setOf]; simp [hj, hq]
  have h := List.all_eq_true.1 without_all _ (List.mem_range.2 hs)
  have h := List.all_eq_true.1 h j (List.mem_range.2 (by omega))
  rw [hb] at h
  have h : setOf n q - 2 ^ j = setOf n q ^^^ 2 ^ j := by simpa using h
  rw [h]
  apply Nat.eq_of_testBit_eq
  intro b
  rw [Nat.testBit_xor, Nat.testBit_two_pow, testBit_setOf, testBit_setOf]
  by_cases e : b = j
  · subst e
    simp [hj, hq]
  · simp [e, Ne.symm e]
theorem less_set {n : Nat} {l : List Int} (o : Ord n l) (i j : Nat) (hi : i < n) (hij : covP n l i j = true) (hj : j < n) :
    (cov n l).set i (wrap64 (rd (cov n l) (i : Int) - shl .i64 1 (j : Int))) = relL n fun a b => if a = i then (covP n l i b && decide (b ≠ j)) else covP n l a b := by
  have hn := o.le
  have hw := without hn (covP n l i) j hj hij
  have hlt := setOf_62 n (covP n l i) (by omega)
  have hle : 2 ^ j ≤ setOf n (covP n l i) := by
    apply Nat.ge_two_pow_of_testBit
    rw [testBit_setOf]
    simp [hj, hij]
  have hp := Nat.two_pow_pos j
  have e : rd (cov n l) (i : Int) = ((setOf n (covP n l i) : Nat) : Int) := relL_rd n _ i hi
  rw [e, shl1 j (by omega), wrap64_id _ (by omega) (by omega)]
  have e2 : ((setOf n (covP n l i) : Nat) : Int) - ((2 ^ j : Nat) : Int) = ((setOf n (fun b => covP n l i b && decide (b ≠ j)) : Nat) : Int) := by
    rw [← hw]
    omega
  rw [e2]
  exact relL_set n _ i hi _
theorem FnClosures : P.Aab.Pure := by
  intro l0 l1 _ hl0 hb _ hl1 _
  have hB := by_wf hb
  obtain ⟨⟨n, l⟩, hd, hlen⟩ := DrawCloseRelation_tot hB
  simp only at hlen
  refine Ev.rounds (g := fun k => Aab.f k l0 l1) ?_
  unfold Aab.f
  obtain ⟨b, hbig⟩ : ∃ b, Abd.f l0 l1 = some b := by
    unfold Abd.f
    split
    · exact ⟨_, rfl⟩
    · exact ⟨_, rfl⟩
  rw [hbig]
  simp only [Option.bind_some]
  cases b with
  | true => simp only [if_true]; exact Ev.now _
  | false =>
  simp only [Bool.false_eq_true, if_false]
  refine Ev.bind hd ?_
  refine Ev.bind (CloseRelation_ev n l (by omega)) ?_
  refine Ev.bind (sCloseRelation_ev n l (by omega)) ?_
  cases hr : isRel n l with
  | false =>
    have ho : isOrd n l = false := by
      cases h : isOrd n l with
      | false => rfl
      | true => rw [isOrd_isRel h] at hr; cases hr
    simp only [Bool.false_eq_true, if_false, bne_self_eq_false]
    refine Ev.bind (pSameOrder_ev _ _ _ _ (by simp)) ?_
    simp only [and_self, decide_true, Bool.not_true]
    refine Ev.step (fun _ => rfl) ?_
    simp only [Aab.j0, Bool.false_eq_true, if_false]
    refine Ev.bind (CoversOf_ev n l (by omega)) ?_
    refine Ev.bind (sCoversOf_ev n l (by omega)) ?_
    simp only [ho, Bool.false_eq_true, if_false, bne_self_eq_false]
    refine Ev.bind (pSameOrder_ev _ _ _ _ (by simp)) ?_
    simp only [and_self, decide_true, if_true]
    refine Ev.bind (IsOrder_ev n l (by omega)) ?_
    simp only [ho, bne_self_eq_false]
    refine Ev.step (fun _ => rfl) ?_
    simp only [Aab.j1, Bool.false_eq_true, if_false]
    exact Ev.now _
  | true =>
  obtain ⟨n, rfl, h⟩ := isRel_iff.1 hr
  have hn := h.le
  have hc := clo_rel h
  have hcc : clo n (clo n l) = clo n l := clo_fix hc (clo_trans h)
  simp only [if_true, Int.toNat_natCast, bne_self_eq_false, Bool.false_eq_true, if_false]
  refine Ev.bind (pSameOrder_ev _ _ _ _ (by rw [hc.len]; omega)) ?_
  simp only [and_self, decide_true, Bool.not_true]
  refine Ev.step (fun _ => rfl) ?_
  simp only [Aab.j0, Bool.false_eq_true, if_false]
  refine Ev.bind (CoversOf_ev (n : Int) l (by omega)) ?_
  refine Ev.bind (sCoversOf_ev (n : Int) l (by omega)) ?_
  simp only [bne_self_eq_false, Bool.false_eq_true, if_false]
  have hcl : (if isOrd (n : Int) l = true then ((n : Int), cov (n : Int).toNat l, true) else ((0 : Int), ([] : List Int), false)).2.1.length ≤ 10 := by
    split
    · simp only [cov, relL_length, Int.toNat_natCast]; omega
    · simp
  have ht : (if isOrd (n : Int) l = true then ((n : Int), cov (n : Int).toNat l, true) else ((0 : Int), ([] : List Int), false)).2.2 = isOrd (n : Int) l := by
    cases isOrd (n : Int) l <;> rfl
  refine Ev.bind (pSameOrder_ev _ _ _ _ (by omega)) ?_
  simp only [and_self, decide_true, if_true]
  refine Ev.bind (IsOrder_ev _ l (by omega)) ?_
  rw [ht]
  simp only [bne_self_eq_false]
  refine Ev.step (fun _ => rfl) ?_
  simp only [Aab.j1, Bool.false_eq_true, if_false, if_true]
  refine Ev.bind (CloseRelation_ev (n : Int) (clo n l) (by rw [hc.len]; omega)) ?_
  simp only [rel_is hc, if_true, Int.toNat_natCast, hcc]
  refine Ev.bind (pSameOrder_ev _ _ _ _ (by rw [hc.len]; omega)) ?_
  simp only [and_self, decide_true, if_true]
  refine Ev.bind (IsOrder_ev _ l (by omega)) ?_
  -- an order is closed
  have hfix : isOrd (n : Int) l = true → clo n l = l := by
    intro ho
    obtain ⟨m, e, o⟩ := isOrd_iff.1 ho
    have e : n = m := by omega
    subst e
    exact clo_fix h o.trans
  -- behind the tests
  have rest : Ev (fun k => Aab.j2 k (isOrd (n : Int) l) false (n : Int) l (n : Int) (clo n l) (if isOrd (n : Int) l = true then ((n : Int), cov (n : Int).toNat l, true) else ((0 : Int), ([] : List Int), false)).1 (if isOrd (n : Int) l = true then ((n : Int), cov (n : Int).toNat l, true) else ((0 : Int), ([] : List Int), false)).2.1) true := by
    generalize hcv : (if isOrd (n : Int) l = true then ((n : Int), cov (n : Int).toNat l, true) else ((0 : Int), ([] : List Int), false)) = cv
    obtain ⟨c0, c1, c2⟩ := cv
    refine Ev.step (fun _ => rfl) ?_
    simp only [Aab.j2, Bool.false_eq_true, if_false, hc.len]
    -- are there loops?
    have upto : ∀ (acc : Nat → Bool), acc 0 = false → (∀ i, i < n → acc (i + 1) = (acc i || B (clo n l) i i)) → (∀ lp, lp = acc n → Ev (fun k => Aab.l0 k (isOrd (n : Int) l) lp (clo n l) (n : Int) (n : Int) (n : Int) l (n : Int) (clo n l) c0 c1) true) → Ev (fun k => Aab.l0 k (isOrd (n : Int) l) false (clo n l) (n : Int) 0 (n : Int) l (n : Int) (clo n l) c0 c1) true := by
      intro acc h0 hs stop
      have key := Ev.up (r := true) (fun i k => Aab.l0 k (isOrd (n : Int) l) (acc i) (clo n l) (n : Int) (i : Int) (n : Int) l (n : Int) (clo n l) c0 c1) n ?_ (stop _ rfl)
      · rw [h0] at key; exact key
      · intro i hi next
        have hd0 : diff (row l i) (row (clo n l) i) = 0 := (diff_zero _ _).2 fun j hj => clo_sub h i j hj
        refine Ev.step (fun _ => rfl) ?_
        simp only [Aab.l0, if_pos (show (i : Int) < (n : Int) by omega), if_pos (show (0 : Int) ≤ (i : Int) by omega), hc.len, h.len, hc.rd, h.rd, andNot_i64 _ _ (h.row_62 i) (hc.row_62 i), hd0, if_pos (show ((0 : Nat) : Int) = 0 from rfl), next64 i n hi (by omega), pIn_eq _ i (show i ≤ 64 by omega), Option.bind_some]
        have e3 : (row (clo n l) i).testBit i = B (clo n l) i i := rfl
        rw [hs i hi] at next
        cases ha : acc i with
        | true => rw [ha] at next; simp only [if_true]; simpa using next
        | false => rw [ha] at next; simp only [Bool.false_eq_true, if_false, e3]; simpa using next
    refine upto (fun i => decide (∃ j, j < i ∧ B (clo n l) j j = true)) (by simp) ?_ ?_
    · intro i hi
      rw [Bool.eq_iff_iff, Bool.or_eq_true, decide_eq_true_iff, decide_eq_true_iff]
      constructor
      · rintro ⟨j, hj, hjj⟩
        by_cases e : j = i
        · subst e; exact .inr hjj
        · exact .inl ⟨j, by omega, hjj⟩
      · rintro (⟨j, hj, hjj⟩ | hjj)
        · exact ⟨j, by omega, hjj⟩
        · exact ⟨i, by omega, hjj⟩
    intro lp hlp
    have hlo : isOrd (n : Int) (clo n l) = !lp := by
      rw [Bool.eq_iff_iff, clo_loops h, hlp, Bool.not_eq_true', decide_eq_false_iff_not]
      constructor
      · rintro H ⟨j, hj, hjj⟩
        rw [H j hj] at hjj
        cases hjj
      · intro H i hi
        cases hc' : B (clo n l) i i with
        | false => rfl
        | true => exact absurd ⟨i, hi, hc'⟩ H
    refine Ev.step (fun _ => rfl) ?_
    simp only [Aab.l0, if_neg (show ¬ (n : Int) < (n : Int) by omega)]
    refine Ev.bind (IsOrder_ev _ _ (by rw [hc.len]; omega)) ?_
    rw [hlo]
    have : ((!lp) == lp) = false := by cases lp <;> rfl
    simp only [this, Bool.false_eq_true, if_false]
    cases ho : isOrd (n : Int) l with
    | false => simp only [Bool.false_eq_true, if_false]; exact Ev.now _
    | true =>
    rw [ho] at hcv
    simp only [if_true, Int.toNat_natCast, Prod.mk.injEq] at hcv
    obtain ⟨rfl, rfl, rfl⟩ := hcv
    obtain ⟨m, e, o⟩ := isOrd_iff.1 ho
    have e : n = m := by omega
    subst e
    have hv := cov_rel h
    simp only [if_true]
    refine Ev.bind (CloseRelation_ev (n : Int) (cov n l) (by rw [hv.len]; omega)) ?_
    simp only [rel_is hv, if_true, Int.toNat_natCast, clo_cov o]
    refine Ev.bind (pSameOrder_ev _ _ _ _ (by omega)) ?_
    simp only [and_self, decide_true, Bool.not_true]
    refine Ev.step (fun _ => rfl) ?_
    simp only [Aab.j4, Bool.false_eq_true, if_false, hv.len]
    refine Ev.up (fun i k => Aab.l1 k (n : Int) (i : Int) (n : Int) (cov n l)) n ?_ ?_
    · intro i hi next
      refine Ev.step (fun _ => rfl) ?_
      simp only [Aab.l1, if_pos (show (i : Int) < (n : Int) by omega), hv.len]
      refine Ev.up (fun j k => Aab.l2 k (i : Int) (n : Int) (i : Int) (n : Int) (j : Int) (n : Int) (cov n l)) n ?_ ?_
      · intro j hj next
        refine Ev.step (fun _ => rfl) ?_
        have e1 : (row (cov n l) i).testBit j = covP n l i j := cov_B h i j
        simp only [Aab.l2, if_pos (show (j : Int) < (n : Int) by omega), if_pos (show (0 : Int) ≤ (i : Int) by omega), hv.len, if_pos (show (i : Int) < (n : Int) by omega)]
        rw [show Aa8.f (rd (cov n l) (i : Int)) (j : Int) = some (covP n l i j) from by rw [hv.rd, pIn_eq _ j (show j ≤ 64 by omega), e1]]
        simp only [Option.bind_some]
        cases hij : covP n l i j with
        | false => simp only [Bool.false_eq_true, if_false, next64 j n hj (by omega)]; exact next
        | true =>
          simp only [if_true, List.length_nil, Nat.zero_add, List.nil_append, hv.len, if_pos (show n < 17592186044416 by omega), if_pos (show (i : Int) < (n : Int) by omega), if_pos (show (0 : Int) ≤ (j : Int) by omega), Int.toNat_natCast, less_set o i j hi hij hj]
          have hm := relL_rel n hn fun a b => if a = i then (covP n l i b && decide (b ≠ j)) else covP n l a b
          refine Ev.bind (CloseRelation_ev (n : Int) _ (by rw [hm.len]; omega)) ?_
          have hcm := clo_rel hm
          have e2 : B (clo n (relL n fun a b => if a = i then (covP n l i b && decide (b ≠ j)) else covP n l a b)) i j = false := by
            refine clo_less o hm i j hij fun a b hab => ?_
            rw [relL_B, Bool.and_eq_true, Bool.and_eq_true] at hab
            have hab := hab.2.2
            split at hab
            · rename_i ea
              rw [Bool.and_eq_true, decide_eq_true_iff] at hab
              subst ea
              exact ⟨hab.1, fun hh => hab.2 hh.2⟩
            · rename_i ea
              exact ⟨hab, fun hh => ea hh.1⟩
          simp only [rel_is hm, if_true, Int.toNat_natCast, hcm.len, if_pos (show (i : Int) < (n : Int) by omega), hcm.rd, pIn_eq _ j (show j ≤ 64 by omega), Option.bind_some]
          rw [show (row (clo n (relL n fun a b => if a = i then (covP n l i b && decide (b ≠ j)) else covP n l a b)) i).testBit j = false from e2]
          simp only [Bool.false_eq_true, if_false, next64 j n hj (by omega)]
          exact next
      · refine Ev.step (fun _ => rfl) ?_
        simp only [Aab.l2, if_neg (show ¬ (n : Int) < (n : Int) by omega), next64 i n hi (by omega)]
        exact next
    · refine Ev.step (fun _ => rfl) ?_
      simp only [Aab.l1, if_neg (show ¬ (n : Int) < (n : Int) by omega)]
      exact Ev.now _
  cases ho : isOrd (n : Int) l with
  | false =>
    rw [ho] at rest
    simp only [Bool.false_eq_true, if_false] at rest ⊢
    exact rest
  | true =>
    rw [ho] at rest
    simp only [if_true] at rest ⊢
    refine Ev.bind (pSameOrder_ev _ _ _ _ (by rw [hc.len]; omega)) ?_
    simp only [hfix ho, and_self, decide_true, Bool.not_true]
    rw [hfix ho] at rest
    exact rest
end Go.Proofs.YtfjpilcmjabikaaDoor.Pure
namespace Go.Proofs.YtfjpilcmjabikaaDoorW.PrintWords
open Go.ChangeShapes Go.WideShapes
theorem sized_ints {H : Type} {enc : TypeId × Value → H} {P : Program} {W : World} {base : Nat} {spare : Nat → Bool} {held : Bool} {t e : TypeId} {k : IntKind} {a : Option Addr} {len cap : Nat} {d : DataW H} {ps : List MemPlace} {ts : List TypeId} {ds : List (DataW H)} {j : Nat}
    (hsz : (DataW.weightsEach P ts ds).all (· ≤ reachBytes) = true) (ht : ts[j]? = some t) (hd : ds[j]? = some d) (hu : P.underlying t = some (.slice e)) (he : P.underlying e = some (.int k)) (hc : P.cellsOf e = 1) {B : Nat} (hB : P.bytesOf e = B)
    (h : DataW.Trod enc P W base spare held t (.slice a len cap) d ps) : len * B ≤ 140737488351232 := by
  obtain ⟨fuel, hf⟩ := h
  rcases open_ints hu he hc hf with ⟨hcs, _⟩ | ⟨x, l, c, zs, hcs, _, hl, _, hz, hx, _, _⟩
  · simp [Value.cells] at hcs
    obtain ⟨rfl, rfl, rfl⟩ := hcs
    simp
  · simp [Value.cells] at hcs
    obtain ⟨rfl, rfl, rfl⟩ := hcs
    obtain ⟨hx, _⟩ := Prod.mk.inj hx
    subst hx
    have z := sized_slice hsz ht hd hu
    rw [hB] at z
    have hl2 : len ≤ zs.length := by
      rw [hz]
      split
      · exact hl
      · exact Nat.le_refl _
    have h1 : (lits (H := H) k (zs.take len)).length + (lits (H := H) k (zs.drop len)).length = zs.length := by
      simp [lits]
      omega
    rw [h1] at z
    exact Nat.le_trans (Nat.mul_le_mul_right _ hl2) z
end Go.Proofs.YtfjpilcmjabikaaDoorW.PrintWords
namespace Go.Proofs.YtfjpilcmjabikaaDoor.fnClosures
open Go.ChangeShapes Go.WideShapes Go.ChangeAt Go.RowKit
open Go.ChangeMaps (open_string shut_string)
open Go.Proofs.YtfjpilcmjabikaaDoorW
set_option linter.unusedVariables false
theorem own : ownKnob Tryd.prog.godebug = none := by kernel_rfl
theorem laidOut : laidOutB Tryd.prog = true := by kernel_rfl
def IsRow (k : IntKind) (w : World) (a : Option Addr) (len cap : Nat) (zs : List Int) : Prop :=
  (a = none ∧ len = 0 ∧ cap = 0 ∧ zs = []) ∨
  ∃ x, a = some x ∧ len ≤ cap ∧ cap ≤ maxLen ∧ zs.length = cap ∧ (∀ i, i < zs.length → w.cell? (x.add i) = some (.int k (zs.getD i 0))) ∧ ∀ n ∈ zs, (Lit.int k n).wf = true
theorem gT : Tryd.prog.globalNamed "math/bits.deBruijn64tab" = some 1 := by kernel_rfl
theorem tT : (Tryd.prog.globals[1]?).map (·.type) = some 122 := by kernel_rfl
theorem cT : Tryd.prog.cellsOf 122 = 64 := by kernel_rfl
theorem cE : Tryd.prog.cellsOf 5 = 1 := by kernel_rfl
def tab64 : List Int := Lib.deBruijn64tab.map fun (z : Nat) => (z : Int)
theorem tab64_at : ∀ j, j < 64 → tab64.getD j 0 = ((Lib.deBruijn64tab.getD j 0 : Nat) : Int) := by decide +kernel
theorem table {W : World} (h : laidMetH Tryd.prog Rows.fnClosuresRow.laid W) : P.TabOK W := by
  rw [MakeChecks.laidMetH_plain _ _ _ (by kernel_rfl)] at h
  have h1 : laidMet Tryd.prog [("math/bits.deBruijn32tab", Rows.laid_math_bits_deBruijn32tab), ("math/bits.deBruijn64tab", Lib.tabData .u8 tab64)] W := h
  have h0 := laidMet.tail (h1)
  have ht := Lib.tabIs_of_head gT tT Tryd.underlying122 Tryd.underlying5 cE cT h0
  intro j hj
  rw [ht.cell gT j (by exact hj), tab64_at j hj]
theorem door_met (os : Os) (args : Array Value) : laidMetH Tryd.prog Rows.fnClosuresRow.laid ((World.doorLaid Tryd.prog 400 os).forCall (fun _ _ => 0) ⟨#[], args, []⟩).memory :=
  laidMetH_of_parts3 (fuel := 8) (laidMet_of_run' 8 (by kernel_rfl) (by kernel_rfl)) (by kernel_rfl) (by kernel_rfl)
set_option maxRecDepth 100000 in
theorem lifted (os : Os) (started : os.Started) (H : Type) (enc : TypeId × Value → H) :
    ReturnsInHanded {} Tryd.checked os 3 .any (fun w args => (Rows.fnClosuresSpec.pre enc Tryd.prog Tryd.f3 [] false w args ∧ laidMetH Tryd.prog Rows.fnClosuresRow.laid w) ∧ sizedMet enc Tryd.prog Tryd.f3 (OpenSpec.ofChange Rows.fnClosuresSpec) false w args)
      (Rows.fnClosuresSpec.post enc Tryd.prog Tryd.f3 false true false false) := by
  refine returnsInHanded_of_change_and (C := Tryd.checked) (X := fun w _ => laidMetH Tryd.prog Rows.fnClosuresRow.laid w) (fun _ _ _ hh h => h.of_heap hh) own started (by kernel_rfl) Tryd.func3
    (ChangeSpec.witness_shaped (enc := enc) (C := Tryd.checked) (os := os) (X := fun w _ => laidMetH Tryd.prog Rows.fnClosuresRow.laid w) false (World.doorLaid Tryd.prog 400 os) #[.slice none 0 0, .slice none 0 0] 8 rfl (World.shaped_of_RefB (by kernel_rfl) (by kernel_rfl)) (by kernel_rfl) (by kernel_rfl) (by kernel_rfl) (door_met os _)) ?_
  intro W base args ds gs before hval0 hW hcnd hsz0 hL _
  have hsz : (DataW.weightsEach Tryd.prog (Tryd.f3.params.toList ++ Rows.fnClosuresSpec.plain.varTypes Tryd.prog) (ds ++ gs)).all (· ≤ reachBytes) = true := hsz0
  have hval : ∀ (j : Nat) t v, Tryd.f3.params[j]? = some t → args[j]? = some v → Value.okWide Tryd.prog W .any base t v := hval0
  have hW' := hW
  obtain ⟨p, q, hA0, hV, rfl, hfz, hnd⟩ := hW
  have hA : DataW.TrodAll enc Tryd.prog W 0 (fun _ => true) true Tryd.f3.params.toList args.toList ds p := hA0
  rw [Tryd.params3] at hA hval hsz
  obtain ⟨v0, vs0, d0, ds0, p0, q0, hargs, rfl, rfl, h0, r0⟩ := trodAll_cons hA
  obtain ⟨v1, vs1, d1, ds1, p1, q1, rfl, rfl, rfl, h1, r1⟩ := trodAll_cons r0
  obtain ⟨rfl, rfl, rfl⟩ := trodAll_nil r1
  obtain rfl : args = #[v0, v1] := by cases args; simp_all
  obtain ⟨rfl, rfl⟩ := trodVars_none hV
  obtain ⟨a0, len0, cap0, rfl⟩ := okWide_slice Tryd.underlying22 (hval 0 22 v0 rfl rfl)
  have k0 := h0
  have lt0 : ∀ x ∈ p0, x.block < W.heap.size := by obtain ⟨m, hm⟩ := k0; exact DataW.trod_lt m _ _ _ hm
  obtain ⟨z0, w0⟩ : ∃ zs, IsRow .u8 W a0 len0 cap0 zs := by
    obtain ⟨fuel, hf⟩ := h0
    rcases open_ints Tryd.underlying22 Tryd.underlying5 (by kernel_rfl) hf with ⟨hcs, _⟩ | ⟨x, l, c, zs, hcs, _, hl, hm, hz, _, hcell, hwz⟩
    · simp [Value.cells] at hcs
      obtain ⟨rfl, rfl, rfl⟩ := hcs
      exact ⟨[], .inl ⟨rfl, rfl, rfl, rfl⟩⟩
    · simp [Value.cells] at hcs
      obtain ⟨rfl, rfl, rfl⟩ := hcs
      exact ⟨zs, .inr ⟨_, rfl, hl, hm, by simpa using hz, hcell, hwz⟩⟩
  have y0 : len0 * 1 ≤ 140737488351232 := PrintWords.sized_ints hsz (j := 0) (t := 22) rfl rfl Tryd.underlying22 Tryd.underlying5 (by kernel_rfl) (by kernel_rfl) h0
  obtain ⟨a1, len1, cap1, rfl⟩ := okWide_slice Tryd.underlying22 (hval 1 22 v1 rfl rfl)
  have k1 := h1
  have lt1 : ∀ x ∈ p1, x.block < W.heap.size := by obtain ⟨m, hm⟩ := k1; exact DataW.trod_lt m _ _ _ hm
  obtain ⟨z1, w1⟩ : ∃ zs, IsRow .u8 W a1 len1 cap1 zs := by
    obtain ⟨fuel, hf⟩ := h1
    rcases open_ints Tryd.underlying22 Tryd.underlying5 (by kernel_rfl) hf with ⟨hcs, _⟩ | ⟨x, l, c, zs, hcs, _, hl, hm, hz, _, hcell, hwz⟩
    · simp [Value.cells] at hcs
      obtain ⟨rfl, rfl, rfl⟩ := hcs
      exact ⟨[], .inl ⟨rfl, rfl, rfl, rfl⟩⟩
    · simp [Value.cells] at hcs
      obtain ⟨rfl, rfl, rfl⟩ := hcs
      exact ⟨zs, .inr ⟨_, rfl, hl, hm, by simpa using hz, hcell, hwz⟩⟩
  have y1 : len1 * 1 ≤ 140737488351232 := PrintWords.sized_ints hsz (j := 1) (t := 22) rfl rfl Tryd.underlying22 Tryd.underlying5 (by kernel_rfl) (by kernel_rfl) h1
  clear hA0 hval0 hsz0 hsz
  refine (P.Aab.walk Pure.FnClosures a0 len0 cap0 z0 a1 len1 cap1 z1 W w0 y0 w1 y1 (table hL)).mono fun e W' ⟨he, bel⟩ => ?_
  subst he
  exact ⟨_, rfl, _, _, _, [], _, [], hW', trodAll_mk1 (shut_bool Tryd.underlying4 _), (trodAll_cons_mk (Below.trod laidOut (by kernel_rfl) (of_decide_eq_true (by kernel_rfl)) k0 bel lt0) (trodAll_cons_mk (Below.trod laidOut (by kernel_rfl) (of_decide_eq_true (by kernel_rfl)) k1 bel lt1) trodAll_mk0)), rfl, bel.frame _, fun h => by cases h⟩
set_option maxHeartbeats 8000000 in
theorem named_ : Tryd.pinned.checked.prog.funcNamed "loop.example/g01106/laws.FnClosures" = some 3 := by kernel_rfl
set_option maxHeartbeats 8000000 in
theorem joined_ : joinedFacts Tryd.pinned.checked.prog 3 Tryd.f3 Rows.fnClosuresSpec Rows.fnClosuresRow = true := by
  unfold joinedFacts
  repeat' (with_reducible refine (Bool.and_eq_true_iff).2 ⟨?_, ?_⟩)
  all_goals (as_aux_lemma => kernel_rfl)
theorem over : Rows.fnClosuresRow.holds Tryd.pinned (OpenSpec.ofChange Rows.fnClosuresSpec) :=
  OpenClaim.holds_of_wide 3 Tryd.f3 rfl rfl rfl rfl rfl rfl rfl ⟨rfl, rfl, rfl, rfl, rfl⟩ rfl rfl rfl rfl rfl named_ Tryd.func3 joined_
    (of_decide_eq_true (by kernel_rfl)) (by unfold Func.isWrapper; first | (rw [if_pos (by decide +kernel)]; kernel_rfl) | (rw [if_neg (by decide +kernel)]; exact ⟨rfl, rfl⟩))
    (fun os started H enc _ => lifted os started H enc)
set_option maxHeartbeats 8000000 in
theorem main_ : Tryd.pinned.checked.prog.mainIs = some (true, "cbc73dea4075ecc5178c1d86ac8785e85380fe9f1c42682a40ca8edfcba2920b".toList) := by kernel_rfl
set_option maxHeartbeats 8000000 in
theorem looks_ : false = Tryd.pinned.checked.prog.looks [] := by kernel_rfl
theorem stand_ : ([22].all fun u => !Tryd.prog.wantsStandIn u) = true := by kernel_rfl
set_option maxHeartbeats 8000000 in
theorem goes_ : false = Rows.fnClosuresRow.goesBy Tryd.pinned.checked.prog := by kernel_rfl
theorem wf_ : Rows.fnClosuresRow.wfByText (OpenSpec.ofChange Rows.fnClosuresSpec) = true := by kernel_rfl
theorem proved : Rows.FnClosuresCardSaid :=
  Claim7.holds_tied_plain_at .later [] [.data, .data] true (true, "cbc73dea4075ecc5178c1d86ac8785e85380fe9f1c42682a40ca8edfcba2920b") false
    over (fun _ h => by cases h) wf_ (fun _ h => by cases h) fnClosures_row_tie rfl ⟨rfl, rfl⟩ main_ rfl
    (fun f fn hf hfn => by
      obtain rfl : f = 3 := Option.some.inj (named_.symm.trans hf) |>.symm
      obtain rfl : fn = Tryd.f3 := (Option.some.inj (Tryd.func3.symm.trans hfn)).symm
      exact ⟨looks_, fun j t ht => by
        rw [Tryd.params3] at ht
        have hm : t ∈ [22] := by have hq := Array.mem_of_getElem? ht; simp at hq; simp [hq]
        exact (show Tryd.prog.wantsStandIn t = false by simpa using List.all_eq_true.1 stand_ t hm)⟩)
    goes_
end Go.Proofs.YtfjpilcmjabikaaDoor.fnClosures
namespace Go.Proofs.YtfjpilcmjabikaaDoor
theorem fnClosures_holds : Rows.FnClosuresCardSaid := fnClosures.proved
end Go.Proofs.YtfjpilcmjabikaaDoor
