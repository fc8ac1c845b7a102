/- The law FnExtensions holds at every input. Written by wip/pack.py: the kit's printed words that are used, the functions' walks as wip/gen.py prints them, and hand proofs. -/
import Derived.Test.YtjdkcafpgebjfaaDoorKFnExtensions5
import Derived.SizedLaws
import Derived.ChangeSlices
import Derived.Test.YtjdkcafpgebjfaaDoorRows
import Derived.Test.YtjdkcafpgebjfaaDoorCards
import Derived.Test.YtjdkcafpgebjfaaDoorTie
import Derived.WalkKit
import Derived.ProofKit
import Derived.OpenShut
import Derived.ShutString
import Derived.ChangeOld
import Derived.Below
import Derived.LaidMore
import Derived.Stop.Joined
import Derived.Stop.LaidErr
import Derived.Lib.LaidTab
import Derived.Lib.SmallJoins
import Derived.SevenTiedAt
namespace Go.Proofs.YtjdkcafpgebjfaaDoor.M
open Go.RowKit Go.Proofs.YtjdkcafpgebjfaaDoorW.PrintMore Go.Proofs.YtjdkcafpgebjfaaDoorW.PrintLast Go.Proofs.YtjdkcafpgebjfaaDoorW.PrintWords Go.Proofs.YtjdkcafpgebjfaaDoor.P
def Tot {α : Type} (g : Nat → Option α) (Q : α → Prop) : Prop := ∃ r, Ev g r ∧ Q r
section
variable {α β : Type} {Q : α → Prop} {R : β → Prop}
theorem Tot.now {r : α} (h : Q r) : Tot (fun _ => some r) Q := ⟨r, Ev.now r, h⟩
theorem Tot.step {g f : Nat → Option α} (h : ∀ k, g (k + 1) = f k) (k : Tot f Q) : Tot g Q := by obtain ⟨r, k, hq⟩ := k; exact ⟨r, Ev.step h k, hq⟩
theorem Tot.bind {g : Nat → Option α} {f : Nat → α → Option β} (h : Tot g Q) (k : ∀ a, Q a → Tot (fun n => f n a) R) : Tot (fun n => (g n).bind (f n)) R := by
  obtain ⟨a, h, hq⟩ := h
  obtain ⟨r, k, hr⟩ := k a hq
  exact ⟨r, Ev.bind h k, hr⟩
theorem Tot.ebind {g : Nat → Option α} {f : Nat → α → Option β} {a : α} (h : Ev g a) (k : Tot (fun n => f n a) R) : Tot (fun n => (g n).bind (f n)) R := by
  obtain ⟨r, k, hr⟩ := k
  exact ⟨r, Ev.bind h k, hr⟩
theorem Tot.obind {x : Option α} {f : Nat → α → Option β} (h : ∃ r, x = some r ∧ Q r) (k : ∀ a, Q a → Tot (fun n => f n a) R) : Tot (fun n => x.bind (f n)) R := by
  obtain ⟨a, rfl, hq⟩ := h
  exact k a hq
theorem Tot.ite {c : Prop} [Decidable c] {f g : Nat → Option α} (h1 : c → Tot f Q) (h2 : ¬ c → Tot g Q) : Tot (fun k => if c then f k else g k) Q := by
  by_cases h : c
  · simp only [if_pos h]; exact h1 h
  · simp only [if_neg h]; exact h2 h
theorem Tot.up {S : Type} (G : Nat → S → Nat → Option α) (n : Nat) (Inv : Nat → S → Prop)
    (step : ∀ i s, i < n → Inv i s → (∀ s', Inv (i + 1) s' → Tot (G (i + 1) s') Q) → Tot (G i s) Q) (stop : ∀ s, Inv n s → Tot (G n s) Q) (i : Nat) (hi : i ≤ n) (s : S) (hs : Inv i s) : Tot (G i s) Q := by
  obtain ⟨d, rfl⟩ : ∃ d, n = i + d := ⟨n - i, by omega⟩
  clear hi
  induction d generalizing i s with
  | zero => exact stop s hs
  | succ d ih =>
    refine step i s (by omega) hs fun s' h' => ?_
    exact ih (i + 1) s' h' (fun a b ha => step a b (by omega)) (by rw [show i + 1 + d = i + (d + 1) by omega]; exact stop)
end
def By (l : List Int) : Prop := ∀ x ∈ l, 0 ≤ x ∧ x ≤ 255
theorem by_wf {l : List Int} (h : ∀ x ∈ l, (Lit.int .u8 x).wf = true) : By l := by
  intro x hx
  have := h x hx
  simp [Lit.wf, IntKind.min, IntKind.max, IntKind.signed, IntKind.bits] at this
  omega
theorem By.rd {l : List Int} (h : By l) (i : Nat) : 0 ≤ rd l (i : Int) ∧ rd l (i : Int) ≤ 255 := by
  rw [rd_nat]
  by_cases hi : i < l.length
  · have := h l[i] (List.getElem_mem hi)
    simpa [hi] using this
  · simp [Nat.not_lt.1 hi]
theorem and_255 (x : Int) : 0 ≤ Go.bits .and .u64 x 255 ∧ Go.bits .and .u64 x 255 ≤ 255 := by
  have e : Go.bits .and .u64 x 255 = IntKind.u64.wrap (((BitVec.ofInt 64 x).toNat &&& 255 : Nat) : Int) := by
    show IntKind.u64.wrap ((BitVec.ofInt 64 x &&& BitVec.ofInt 64 255).toNat : Int) = _
    rw [BitVec.toNat_and]; rfl
  have h : (BitVec.ofInt 64 x).toNat &&& 255 ≤ 255 := Nat.and_le_right
  rw [e, u64_small _ (by omega)]
  omega
theorem wrap64_in (x : Int) (h0 : -9223372036854775808 ≤ x) (h1 : x ≤ 9223372036854775807) : wrap64 x = x := by unfold wrap64; omega
theorem next_ok {l : List Int} (hb : By l) (p h : Int) (hp : 0 ≤ p) (hp2 : p ≤ 1000000) : ∃ r, spec_l1Cur_next.f l p h = some r ∧ 0 ≤ r.1 ∧ r.1 ≤ 255 ∧ r.2.1 = p + 1 := by
  unfold spec_l1Cur_next.f
  obtain ⟨i, rfl⟩ := Int.eq_ofNat_of_zero_le hp
  have h1 := hb.rd i
  rw [wrap64_in ((i : Int) + 1) (by omega) (by omega)]
  have ha := fun x => and_255 x
  by_cases h0 : (i : Int) < (l.length : Int)
  · rw [if_pos h0, if_pos hp, if_pos (show (i : Int) + 1 ≤ (l.length : Int) by omega)]
    exact ⟨_, rfl, by rw [wrap64_in _ (by omega) (by omega)]; omega, by rw [wrap64_in _ (by omega) (by omega)]; omega, rfl⟩
  · rw [if_neg h0, if_neg (show ¬ (i : Int) + 1 ≤ (l.length : Int) by omega)]
    refine ⟨_, rfl, ?_, ?_, rfl⟩
    · have := ha ((IntKind.u64.wrap (IntKind.u64.wrap (IntKind.u64.wrap (h * 6364136223846793005)) + 1442695040888963407)) / 1099511627776)
      rw [wrap64_in _ (by omega) (by omega)]; exact this.1
    · have := ha ((IntKind.u64.wrap (IntKind.u64.wrap (IntKind.u64.wrap (h * 6364136223846793005)) + 1442695040888963407)) / 1099511627776)
      rw [wrap64_in _ (by omega) (by omega)]; exact this.2
theorem pick_ok {l : List Int} (hb : By l) (p h a : Int) (hp : 0 ≤ p) (hp2 : p ≤ 999990) : ∃ r, spec_l1Cur_pick.f l p h a = some r ∧ 0 ≤ r.1 ∧ (r.1 = 0 ∨ r.1 < a) ∧ p ≤ r.2.1 ∧ r.2.1 ≤ p + 2 := by
  unfold spec_l1Cur_pick.f
  by_cases h1 : a ≤ 1
  · rw [if_pos h1]; exact ⟨_, rfl, by simp, by simp, by simp, by simp; omega⟩
  · rw [if_neg h1]
    obtain ⟨⟨v, p1, h'⟩, e, a1, a2, a3⟩ := next_ok hb p h hp (by omega)
    simp only at a1 a2 a3
    subst a3
    rw [e, Option.bind_some]
    by_cases h2 : a > 200
    · rw [if_pos h2]
      obtain ⟨⟨v2, p2, h''⟩, e2, b1, b2, b3⟩ := next_ok hb (p + 1) h' (by omega) (by omega)
      simp only at b1 b2 b3
      subst b3
      rw [e2, Option.bind_some, if_neg (by omega)]
      refine ⟨_, rfl, ?_, ?_, by simp; omega, by simp; omega⟩
      all_goals
        simp only
        rw [wrap64_in (v * 256) (by omega) (by omega), wrap64_in (v * 256 + v2) (by omega) (by omega), Int.tmod_eq_emod_of_nonneg (by omega)]
      · exact Int.emod_nonneg _ (by omega)
      · exact .inr (Int.emod_lt_of_pos _ (by omega))
    · rw [if_neg h2, if_neg (by omega)]
      refine ⟨_, rfl, ?_, ?_, by simp only; omega, by simp only; omega⟩
      all_goals
        simp only
        rw [Int.tmod_eq_emod_of_nonneg (by omega)]
      · exact Int.emod_nonneg _ (by omega)
      · exact .inr (Int.emod_lt_of_pos _ (by omega))
theorem one_ok {l : List Int} (hb : By l) (p h a : Int) (hp : 0 ≤ p) (hp2 : p ≤ 999990) : ∃ r, spec_l1Cur_one.f l p h a = some r ∧ p ≤ r.2.1 ∧ r.2.1 ≤ p + 2 := by
  obtain ⟨r, e, h1⟩ := pick_ok hb p h a hp hp2
  unfold spec_l1Cur_one.f
  rw [e]
  exact ⟨_, rfl, h1.2.2.1, h1.2.2.2⟩
theorem among_ok {l : List Int} (hb : By l) (p h : Int) (z : List Int) (hz : z ≠ []) (hp : 0 ≤ p) (hp2 : p ≤ 999990) : ∃ r, spec_l1Cur_among.f l p h z = some r ∧ r.1 ∈ z ∧ p ≤ r.2.1 ∧ r.2.1 ≤ p + 2 := by
  obtain ⟨r, e, h1, h2, h3⟩ := pick_ok hb p h (z.length : Int) hp hp2
  have hz' := List.length_pos_iff.2 hz
  unfold spec_l1Cur_among.f
  rw [e, Option.bind_some, if_pos h1, if_pos (by omega)]
  refine ⟨_, rfl, ?_, h3⟩
  obtain ⟨i, hi⟩ := Int.eq_ofNat_of_zero_le h1
  simp only [hi]
  rw [rd_get z i (by omega)]
  exact List.getElem_mem _
theorem orHas_ok (s j : Int) (hj : 0 ≤ j) : ∃ r, spec_orHas.f s j = some r ∧ True := by unfold spec_orHas.f; rw [if_pos hj]; exact ⟨_, rfl, trivial⟩
theorem l1Own_eq (l : List Int) (h : l.length < 17592186044416) : spec_l1Own.f l = some l := by
  unfold spec_l1Own.f
  simp [h]
theorem close_tot (n : Int) (l : List Int) (hl : l.length ≤ 140737488355328) : Tot (fun k => spec_CloseRelation.f k n l) (fun r => 0 ≤ r.1 ∧ (r.1 = 0 ∨ r.1 = n) ∧ r.1 ≤ 10 ∧ (r.2.1.length : Int) = r.1 ∧ r.2.2 = isRel n l) := by
  unfold spec_CloseRelation.f
  refine Tot.ebind (orRelation_ev n l hl) ?_
  cases hr : isRel n l with
  | false => simp only [Bool.false_eq_true, if_false]; exact Tot.now (by simp)
  | true =>
    obtain ⟨m, rfl, h⟩ := isRel_iff.1 hr
    have hlen := h.len
    have h10 := h.le
    simp only [if_true, l1Own_eq l (by omega), Option.bind_some, hlen]
    refine Tot.up (fun i s k => spec_CloseRelation.l0 k (m : Int) (i : Int) (m : Int) s) m (fun _ s => s.length = m) ?_ ?_ 0 (Nat.zero_le _) l hlen
    · intro i s hi hs next
      refine Tot.step (fun _ => rfl) ?_
      simp only [spec_CloseRelation.l0, if_pos (show (i : Int) < (m : Int) by omega), hs]
      refine Tot.up (fun j s k => spec_CloseRelation.l1 k (i : Int) (m : Int) (i : Int) (m : Int) (j : Int) (m : Int) s) m (fun _ s => s.length = m) ?_ ?_ 0 (Nat.zero_le _) s hs
      · intro j s hj hs next
        refine Tot.step (fun _ => rfl) ?_
        simp only [spec_CloseRelation.l1, hs, if_pos (show (j : Int) < (m : Int) by omega), if_pos (show (i : Int) < (m : Int) by omega), if_pos (show (0 : Int) ≤ (i : Int) by omega), if_pos (show (0 : Int) ≤ (j : Int) by omega), next64 j m hj (by omega)]
        refine Tot.obind (orHas_ok _ _ (by omega)) fun b _ => ?_
        refine Tot.ite (fun _ => ?_) (fun _ => ?_)
        · exact next _ (by simpa using hs)
        · exact next _ hs
      · intro s hs
        refine Tot.step (fun _ => rfl) ?_
        simp only [spec_CloseRelation.l1, if_neg (show ¬ (m : Int) < (m : Int) by omega), next64 i m hi (by omega)]
        exact next _ hs
    · intro s hs
      refine Tot.step (fun _ => rfl) ?_
      simp only [spec_CloseRelation.l0, if_neg (show ¬ (m : Int) < (m : Int) by omega)]
      exact Tot.now (by simp [hs]; omega)
theorem order_tot {l : List Int} (hb : By l) (p h a : Int) (hp : 0 ≤ p) (hp2 : p ≤ 999000) (ha0 : 0 ≤ a) (ha : a ≤ 10) :
    Tot (fun k => spec_l1Cur_order.f k l p h a) (fun r => 0 ≤ r.1 ∧ r.1 ≤ a ∧ (r.2.1.length : Int) = r.1 ∧ p ≤ r.2.2.1 ∧ r.2.2.1 ≤ p + 400) := by
  unfold spec_l1Cur_order.f
  rw [wrap64_in (a + 1) (by omega) (by omega)]
  refine Tot.obind (pick_ok hb p h (a + 1) hp (by omega)) ?_
  rintro ⟨n, p1, h1⟩ ⟨n0, n1, n2, n3⟩
  simp only at n0 n1 n2 n3
  simp only [if_pos n0]
  obtain ⟨m, rfl⟩ := Int.eq_ofNat_of_zero_le n0
  have hm : m ≤ 10 := by omega
  rw [Int.toNat_natCast]
  simp only [if_pos (show m ≤ 35184372088832 by omega)]
  refine Tot.obind (pick_ok hb p1 h1 3 (by omega) (by omega)) ?_
  rintro ⟨kd, p2, h2⟩ ⟨k0, k1, k2, k3⟩
  simp only at k0 k1 k2 k3
  refine Tot.up (fun i (s : List Int × List Int × Int × Int) k => spec_l1Cur_order.l0 k (m : Int) kd s.1 s.2.1 (i : Int) l s.2.2.1 s.2.2.2 (m : Int) (List.replicate m 0)) m
    (fun i s => s.1.length = i ∧ s.2.1.length = i ∧ p ≤ s.2.2.1 ∧ s.2.2.1 ≤ p + 4 + 4 * (i : Int)) ?_ ?_ 0 (Nat.zero_le _) ([], [], p2, h2) ⟨rfl, rfl, by simp only; omega, by simp only; omega⟩
  · rintro i ⟨x8, x9, p3, h3⟩ hi ⟨s1, s2, s3, s4⟩ next
    simp only at s1 s2 s3 s4
    refine Tot.step (fun _ => rfl) ?_
    simp only [spec_l1Cur_order.l0, if_pos (show (i : Int) < (m : Int) by omega), s1, s2, if_pos (show i < 17592186044416 by omega), next64 i m hi (by omega)]
    refine Tot.obind (pick_ok hb p3 h3 8 (by omega) (by omega)) ?_
    rintro ⟨v, p4, h4⟩ ⟨v0, v1, v2, v3⟩
    simp only at v0 v1 v2 v3
    simp only [Option.bind_some]
    refine Tot.ite (fun _ => ?_) (fun _ => ?_)
    · refine Tot.obind (pick_ok hb p4 h4 4 (by omega) (by omega)) ?_
      rintro ⟨v', p5, h5⟩ ⟨u0, u1, u2, u3⟩
      simp only at u0 u1 u2 u3
      exact next (_, _, _, _) ⟨by simp [s1], by simp [s2], by simp only; omega, by simp only; omega⟩
    · exact next (_, _, _, _) ⟨by simp [s1], by simp [s2], by simp only; omega, by simp only; omega⟩
  · rintro ⟨x8, x9, p3, h3⟩ ⟨s1, s2, s3, s4⟩
    simp only at s1 s2 s3 s4
    refine Tot.step (fun _ => rfl) ?_
    simp only [spec_l1Cur_order.l0, if_neg (show ¬ (m : Int) < (m : Int) by omega)]
    refine Tot.up (fun i (s : Int × Int × List Int) k => spec_l1Cur_order.l1 k (m : Int) kd x8 x9 (i : Int) l s.1 s.2.1 (m : Int) s.2.2) m
      (fun i s => p ≤ s.1 ∧ s.1 ≤ p + 44 + 22 * (i : Int) ∧ s.2.2.length = m) ?_ ?_ 0 (Nat.zero_le _) (p3, h3, List.replicate m 0) ⟨by simp only; omega, by simp only; omega, by simp⟩
    · rintro i ⟨p4, h4, z⟩ hi ⟨t1, t2, t3⟩ next
      simp only at t1 t2 t3
      refine Tot.step (fun _ => rfl) ?_
      simp only [spec_l1Cur_order.l1, if_pos (show (i : Int) < (m : Int) by omega)]
      refine Tot.up (fun j (s : Int × Int × List Int) k => spec_l1Cur_order.l2 k (m : Int) kd x8 x9 (i : Int) (j : Int) l s.1 s.2.1 (m : Int) s.2.2) m
        (fun j s => p ≤ s.1 ∧ s.1 ≤ p + 44 + 22 * (i : Int) + 2 * (j : Int) ∧ s.2.2.length = m) ?_ ?_ 0 (Nat.zero_le _) (p4, h4, z) ⟨by simp only; omega, by simp only; omega, t3⟩
      · rintro j ⟨p5, h5, z⟩ hj ⟨q1, q2, q3⟩ next
        simp only at q1 q2 q3
        have hone : ∀ v p' h' , p ≤ p' → p' ≤ p5 + 2 → Tot (fun k => spec_l1Cur_order.l2 k (m : Int) kd x8 x9 (i : Int) ((j + 1 : Nat) : Int) l p' h' (m : Int) (z.set i v)) _ := fun v p' h' a1 a2 => next (p', h', z.set i v) ⟨a1, by simp only; omega, by simpa using q3⟩
        have hno : ∀ p' h' , p ≤ p' → p' ≤ p5 + 2 → Tot (fun k => spec_l1Cur_order.l2 k (m : Int) kd x8 x9 (i : Int) ((j + 1 : Nat) : Int) l p' h' (m : Int) z) _ := fun p' h' a1 a2 => next (p', h', z) ⟨a1, by simp only; omega, q3⟩
        refine Tot.step (fun _ => rfl) ?_
        simp only [spec_l1Cur_order.l2, if_pos (show (j : Int) < (m : Int) by omega), s1, s2, q3, if_pos (show (i : Int) < (m : Int) by omega), if_pos (show (0 : Int) ≤ (i : Int) by omega), if_pos (show (0 : Int) ≤ (j : Int) by omega), next64 j m hj (by omega), Int.toNat_natCast]
        refine Tot.ite (fun _ => ?_) (fun _ => ?_)
        · refine Tot.ite (fun _ => ?_) (fun _ => ?_)
          · exact hone _ _ _ (by omega) (by omega)
          · refine Tot.ite (fun _ => ?_) (fun _ => hno _ _ (by omega) (by omega))
            refine Tot.ite (fun _ => ?_) (fun _ => hno _ _ (by omega) (by omega))
            refine Tot.obind (one_ok hb p5 h5 3 (by omega) (by omega)) ?_
            rintro ⟨v, p6, h6⟩ ⟨u2, u3⟩
            simp only at u2 u3
            dsimp only
            exact Tot.ite (fun _ => hone _ _ _ (by omega) (by omega)) (fun _ => hno _ _ (by omega) (by omega))
        · refine Tot.ite (fun _ => ?_) (fun _ => hno _ _ (by omega) (by omega))
          refine Tot.ite (fun _ => ?_) (fun _ => hno _ _ (by omega) (by omega))
          refine Tot.obind (one_ok hb p5 h5 3 (by omega) (by omega)) ?_
          rintro ⟨v, p6, h6⟩ ⟨u2, u3⟩
          simp only at u2 u3
          dsimp only
          exact Tot.ite (fun _ => hone _ _ _ (by omega) (by omega)) (fun _ => hno _ _ (by omega) (by omega))
      · rintro ⟨p5, h5, z⟩ ⟨q1, q2, q3⟩
        simp only at q1 q2 q3
        refine Tot.step (fun _ => rfl) ?_
        simp only [spec_l1Cur_order.l2, if_neg (show ¬ (m : Int) < (m : Int) by omega), next64 i m hi (by omega)]
        exact next (p5, h5, z) ⟨q1, by simp only; omega, q3⟩
    · rintro ⟨p4, h4, z⟩ ⟨t1, t2, t3⟩
      simp only at t1 t2 t3
      refine Tot.step (fun _ => rfl) ?_
      simp only [spec_l1Cur_order.l1, if_neg (show ¬ (m : Int) < (m : Int) by omega)]
      refine Tot.ite (fun _ => Tot.now ⟨by simp only; omega, by simp only; omega, by simp only; omega, by simp only; omega, by simp only; omega⟩) (fun _ => ?_)
      refine Tot.bind (close_tot (m : Int) z (by omega)) ?_
      rintro ⟨a1, a2, a3⟩ ⟨c1, c2, c3, c4⟩
      exact Tot.now ⟨by simp only; omega, by simp only at c2 ⊢; omega, by simp only at c4 ⊢; omega, by simp only; omega, by simp only; omega⟩
theorem relation_tot {l : List Int} (hb : By l) (p h a : Int) (hp : 0 ≤ p) (hp2 : p ≤ 999000) (ha0 : 0 ≤ a) (ha : a ≤ 10) :
    Tot (fun k => spec_l1Cur_relation.f k l p h a) (fun r => 0 ≤ r.1 ∧ r.1 ≤ a ∧ (r.2.1.length : Int) = r.1 ∧ p ≤ r.2.2.1 ∧ r.2.2.1 ≤ p + 400) := by
  unfold spec_l1Cur_relation.f
  rw [wrap64_in (a + 1) (by omega) (by omega)]
  refine Tot.obind (pick_ok hb p h (a + 1) hp (by omega)) ?_
  rintro ⟨n, p1, h1⟩ ⟨n0, n1, n2, n3⟩
  simp only at n0 n1 n2 n3
  obtain ⟨m, rfl⟩ := Int.eq_ofNat_of_zero_le n0
  have hm : m ≤ 10 := by omega
  refine Tot.up (fun i (s : Int × Int × List Int) k => spec_l1Cur_relation.l0 k l s.1 s.2.1 (m : Int) s.2.2) m
    (fun i s => p ≤ s.1 ∧ s.1 ≤ p + 2 + 20 * (i : Int) ∧ s.2.2.length = i) ?_ ?_ 0 (Nat.zero_le _) (p1, h1, []) ⟨by simp only; omega, by simp only; omega, rfl⟩
  · rintro i ⟨p2, h2, z⟩ hi ⟨s1, s2, s3⟩ next
    simp only at s1 s2 s3
    refine Tot.step (fun _ => rfl) ?_
    simp only [spec_l1Cur_relation.l0, s3, if_pos (show (i : Int) < (m : Int) by omega)]
    refine Tot.up (fun j (s : Int × Int × Int) k => spec_l1Cur_relation.l1 k s.1 (j : Int) l s.2.1 s.2.2 (m : Int) z) m
      (fun j s => p ≤ s.2.1 ∧ s.2.1 ≤ p + 2 + 20 * (i : Int) + 2 * (j : Int)) ?_ ?_ 0 (Nat.zero_le _) (0, p2, h2) ⟨by simp only; omega, by simp only; omega⟩
    · rintro j ⟨x, p3, h3⟩ hj ⟨q1, q2⟩ next
      simp only at q1 q2
      refine Tot.step (fun _ => rfl) ?_
      simp only [spec_l1Cur_relation.l1, if_pos (show (j : Int) < (m : Int) by omega), if_pos (show (0 : Int) ≤ (j : Int) by omega), next64 j m hj (by omega)]
      refine Tot.obind (one_ok hb p3 h3 4 (by omega) (by omega)) ?_
      rintro ⟨v, p6, h6⟩ ⟨u2, u3⟩
      simp only at u2 u3
      dsimp only
      exact Tot.ite (fun _ => next (_, p6, h6) ⟨by simp only; omega, by simp only; omega⟩) (fun _ => next (_, p6, h6) ⟨by simp only; omega, by simp only; omega⟩)
    · rintro ⟨x, p3, h3⟩ ⟨q1, q2⟩
      simp only at q1 q2
      refine Tot.step (fun _ => rfl) ?_
      simp only [spec_l1Cur_relation.l1, if_neg (show ¬ (m : Int) < (m : Int) by omega), s3, if_pos (show i < 17592186044416 by omega)]
      exact next (p3, h3, z ++ [x]) ⟨q1, by simp only; omega, by simp [s3]⟩
  · rintro ⟨p2, h2, z⟩ ⟨s1, s2, s3⟩
    simp only at s1 s2 s3
    refine Tot.step (fun _ => rfl) ?_
    simp only [spec_l1Cur_relation.l0, s3, if_neg (show ¬ (m : Int) < (m : Int) by omega)]
    exact Tot.now ⟨by simp only; omega, by simp only; omega, by simp only; omega, by simp only; omega, by simp only; omega⟩
theorem anyOrder_tot {l : List Int} (hb : By l) (p h a : Int) (hp : 0 ≤ p) (hp2 : p ≤ 998000) (ha0 : 0 ≤ a) (ha : a ≤ 10) :
    Tot (fun k => spec_l1Cur_anyOrder.f k l p h a) (fun r => r.2.1.length ≤ 10 ∧ p ≤ r.2.2.1 ∧ r.2.2.1 ≤ p + 900) := by
  unfold spec_l1Cur_anyOrder.f
  refine Tot.bind (order_tot hb p h a hp (by omega) ha0 ha) ?_
  rintro ⟨n, z, p1, h1⟩ ⟨n0, n1, n2, n3, n4⟩
  simp only at n0 n1 n2 n3 n4
  refine Tot.obind (pick_ok hb p1 h1 14 (by omega) (by omega)) ?_
  rintro ⟨c, p2, h2⟩ ⟨k0, k1, k2, k3⟩
  simp only at k0 k1 k2 k3
  simp only []
  refine Tot.ite (fun _ => ?_) (fun _ => Tot.ite (fun _ => ?_) (fun _ => Tot.ite (fun _ => ?_) (fun _ => Tot.ite (fun _ => ?_) (fun _ => ?_))))
  · refine Tot.bind (relation_tot hb p2 h2 a (by omega) (by omega) ha0 ha) ?_
    rintro ⟨n', z', p', h'⟩ ⟨m0, m1, m2, m3, m4⟩
    simp only at m0 m1 m2 m3 m4
    exact Tot.now ⟨by simp only; omega, by simp only; omega, by simp only; omega⟩
  · refine Tot.obind (among_ok hb p2 h2 _ (by simp) (by omega) (by omega)) ?_
    rintro ⟨v, p', h'⟩ ⟨_, m3, m4⟩
    simp only at m3 m4
    exact Tot.now ⟨by simp only; omega, by simp only; omega, by simp only; omega⟩
  · refine Tot.ite (fun hz => ?_) (fun _ => Tot.now ⟨by simp only; omega, by simp only; omega, by simp only; omega⟩)
    refine Tot.obind (pick_ok hb p2 h2 _ (by omega) (by omega)) ?_
    rintro ⟨v, p', h'⟩ ⟨v0, v1, m3, m4⟩
    simp only at v0 v1 m3 m4
    simp only [if_pos n0]
    refine Tot.obind (among_ok hb p' h' _ (by simp) (by omega) (by omega)) ?_
    rintro ⟨v', p'', h''⟩ ⟨_, m5, m6⟩
    simp only at m5 m6
    simp only [if_pos v0]
    rw [if_pos (show v < (z.length : Int) by omega)]
    exact Tot.now ⟨by simp only [List.length_set]; omega, by simp only; omega, by simp only; omega⟩
  · refine Tot.bind (order_tot hb p2 h2 10 (by omega) (by omega) (by omega) (by omega)) ?_
    rintro ⟨n', z', p', h'⟩ ⟨m0, m1, m2, m3, m4⟩
    simp only at m0 m1 m2 m3 m4
    exact Tot.now ⟨by simp only; omega, by simp only; omega, by simp only; omega⟩
  · exact Tot.now ⟨by simp only; omega, by simp only; omega, by simp only; omega⟩
end Go.Proofs.YtjdkcafpgebjfaaDoor.M
namespace Go.Proofs.YtjdkcafpgebjfaaDoor.P
open Go.RowKit Go.Proofs.YtjdkcafpgebjfaaDoorW.PrintWords Go.Proofs.YtjdkcafpgebjfaaDoorW.PrintLast Go.Proofs.YtjdkcafpgebjfaaDoorW.PrintMore
open Bool renaming true → T, false → F
open List renaming setIfInBounds_toArray → L_, set_cons_zero → M_, set_cons_succ → N_, map_toArray → P_, map_cons → Q_, map_nil → R_, length_drop → S_, length_take → U_
open Aside0 renaming mk → A_
attribute [local go_sem] max2_int min2_int max_two min_two max_three min_three max_four min_four
set_option linter.unusedVariables false
set_option linter.unusedSimpArgs false
attribute [local go_sem] fldOrder_0 fldOrder_1
def impl_MirrorOf.f (k : Nat) (a0_0 : Int) (l0_1 : List Int) : Option (Int × List Int × Bool) := (impl_IsRelation.f k a0_0 l0_1).bind fun t612 => (if t612 = true then ((impl_Order_mirror.f k a0_0 l0_1).bind fun bt613 => (some (bt613.1, bt613.2, true))) else (some (0, ([] : List Int), false)))
def spec_orMirror.l0 : Nat → Int → Int → Int → List Int → Int → List Int → Option (Int × List Int)
 | 0,_,_,_,_,_,_=>none
 | k + 1,x10,x11,x621000,x621001,x623000,x623001=>if x11 < x10 then ((spec_orBelow.f k x621000 x621001 x11).bind fun t623=>(if x623001.length < 17592186044416 then (spec_orMirror.l0 k x10 (wrap64 (x11 + 1)) x621000 x621001 x623000 (x623001 ++ [t623])) else (none))) else (some (x623000,x623001))
def spec_orMirror.f (k : Nat) (a0_0 : Int) (l0_1 : List Int) : Option (Int × List Int) := spec_orMirror.l0 k (l0_1.length : Int) 0 a0_0 l0_1 a0_0 ([] : List Int)
def spec_MirrorOf.f (k : Nat) (a0_0 : Int) (l0_1 : List Int) : Option (Int × List Int × Bool) := (spec_orRelation.f k a0_0 l0_1).bind fun t629 => (if t629 = true then ((spec_orMirror.f k a0_0 l0_1).bind fun bt630 => (some (bt630.1, bt630.2, true))) else (some (0, ([] : List Int), false)))
def impl_Order_has.f (k : Nat) (a0_0 : Int) (l0_1 : List Int) (l1 : List Int) : Option (Bool) := (impl_allWithin.f k l1 0 (wrap64 (a0_0 - 1))).bind fun t640 => (some t640)
def impl_BelowOf.f (k : Nat) (a0_0 : Int) (l0_1 : List Int) (a1 : Int) : Option (Int × Bool) := (impl_IsRelation.f k a0_0 l0_1).bind fun t642 => (if t642 = true then ((impl_Order_has.f k a0_0 l0_1 (([a1] : List Int))).bind fun t646 => (if t646 = true then ((impl_Order_mirror.f k a0_0 l0_1).bind fun bt647 => (if 0 ≤ a1 then (if a1 < (bt647.2.length : Int) then (some (rd bt647.2 a1, true)) else (none)) else (none))) else (some (0, false)))) else (some (0, false)))
def impl_Order_indifferent.l0 : Nat → List Int → Int → Int → Int → List Int → Int → List Int → Option (List Int)
 | 0,_,_,_,_,_,_,_=>none
 | k + 1,x3,x10,x11,x376000,x376001,x384000,x384001=>if x11 < x10 then ((impl_Order_all.f x376000 x376001).bind fun t384=>(if 0 ≤ x11 then (if x11 < (x376001.length : Int) then (if x11 < (x384001.length : Int) then (if x3.length < 17592186044416 then (impl_Order_indifferent.l0 k (x3 ++ [Go.bits .andNot .i64 (Go.bits .andNot .i64 (Go.bits .andNot .i64 t384 (rd x376001 x11)) (rd x384001 x11)) (shl .i64 1 x11)]) x10 (wrap64 (x11 + 1)) x376000 x376001 x384000 x384001) else (none)) else (none)) else (none)) else (none))) else (some x3)
def impl_Order_indifferent.f (k : Nat) (a0_0 : Int) (l0_1 : List Int) : Option (List Int) := (impl_Order_mirror.f k a0_0 l0_1).bind fun bt379 => (impl_Order_indifferent.l0 k (([] : List Int)) a0_0 0 a0_0 l0_1 bt379.1 bt379.2)
def impl_IndifferentTo.f (k : Nat) (a0_0 : Int) (l0_1 : List Int) (a1 : Int) : Option (Int × Bool) := (impl_IsRelation.f k a0_0 l0_1).bind fun t653 => (if t653 = true then ((impl_Order_has.f k a0_0 l0_1 (([a1] : List Int))).bind fun t657 => (if t657 = true then ((impl_Order_indifferent.f k a0_0 l0_1).bind fun t658 => (if 0 ≤ a1 then (if a1 < (t658.length : Int) then (some (rd t658 a1, true)) else (none)) else (none))) else (some (0, false)))) else (some (0, false)))
def impl_IsBetter.f (k : Nat) (a0_0 : Int) (l0_1 : List Int) (a1 : Int) (a2 : Int) : Option (Bool × Bool) := (impl_IsRelation.f k a0_0 l0_1).bind fun t663 => (if t663 = true then ((impl_Order_has.f k a0_0 l0_1 (([a1, a2] : List Int))).bind fun t667 => (if t667 = true then ((impl_Order_better.f a0_0 l0_1 a1 a2).bind fun t668 => (some (t668, true))) else (some (false, false)))) else (some (false, false)))
end Go.Proofs.YtjdkcafpgebjfaaDoor.P
namespace Go.Proofs.YtjdkcafpgebjfaaDoor.P
open Go.RowKit Go.Proofs.YtjdkcafpgebjfaaDoorW.PrintWords Go.Proofs.YtjdkcafpgebjfaaDoorW.PrintLast Go.Proofs.YtjdkcafpgebjfaaDoorW.PrintMore
open Bool renaming true → T, false → F
open List renaming setIfInBounds_toArray → L_, set_cons_zero → M_, set_cons_succ → N_, map_toArray → P_, map_cons → Q_, map_nil → R_, length_drop → S_, length_take → U_
open Aside0 renaming mk → A_
attribute [local go_sem] max2_int min2_int max_two min_two max_three min_three max_four min_four
set_option linter.unusedVariables false
set_option linter.unusedSimpArgs false
attribute [local go_sem] fldOrder_0 fldOrder_1
def laws_pIn.f (a0 : Int) (a1 : Int) : Option (Bool) := if 0 ≤ a1 then (some ((Int.tmod (shr .i64 a0 a1) 2) == 1)) else (none)
end Go.Proofs.YtjdkcafpgebjfaaDoor.P
namespace Go.Proofs.YtjdkcafpgebjfaaDoor.M
open Go.RowKit Go.Proofs.YtjdkcafpgebjfaaDoorW.PrintMore Go.Proofs.YtjdkcafpgebjfaaDoorW.PrintLast Go.Proofs.YtjdkcafpgebjfaaDoorW.PrintWords Go.Proofs.YtjdkcafpgebjfaaDoor.P
def mir (n : Nat) (l : List Int) : List Int := relL n fun i j => B l j i
theorem mir_rel {n : Nat} {l : List Int} (h : Rel n l) : Rel n (mir n l) := relL_rel n h.le _
theorem mir_B {n : Nat} {l : List Int} (h : Rel n l) (i j : Nat) : B (mir n l) i j = B l j i := by
  unfold mir
  rw [relL_B]
  cases hb : B l j i with
  | false => simp
  | true => simp [h.B_lt hb, h.B_lt' hb]
theorem mirror_ev {n : Nat} {l : List Int} (h : Rel n l) : Ev (fun k => impl_Order_mirror.f k (n : Int) l) ((n : Int), mir n l) := by
  have hn := h.le
  unfold impl_Order_mirror.f
  refine Ev.bind (relation_ev n (by omega) (fun _ x y => impl_Order_mirror_1.f x y (n : Int) l) (fun i j => B l j i) ?_) (Ev.now _)
  intro i j hi hj
  refine Ev.const ?_
  unfold impl_Order_mirror_1.f
  rw [better_eq h n j i hj (by omega)]
  rfl
theorem orBelow_ev {n : Nat} {l : List Int} (h : Rel n l) (z : Int) (i : Nat) (hi : i ≤ 62) : Ev (fun k => spec_orBelow.f k z l (i : Int)) ((setOf n fun j => B l j i : Nat) : Int) := by
  have hlen := h.len
  have hn := h.le
  unfold spec_orBelow.f
  rw [hlen]
  refine Ev.up (fun j k => spec_orBelow.l0 k (i : Int) ((setOf j fun j => B l j i : Nat) : Int) l (n : Int) (j : Int)) n ?_ ?_
  · intro j hj next
    refine Ev.step (fun _ => rfl) ?_
    rw [setOf_bit_or] at next
    simp only [spec_orBelow.l0, if_pos (show (j : Int) < (n : Int) by omega), if_pos (show (0 : Int) ≤ (j : Int) by omega), hlen, h.rd, orHas_eq _ i (by omega), Option.bind_some, next64 j n hj (by omega)]
    rw [show (row l j).testBit i = B l j i from rfl]
    cases hb : B l j i with
    | false =>
      rw [hb] at next
      simpa using next
    | true =>
      rw [hb] at next
      have h2 : (2 : Nat) ^ j < 9223372036854775808 := Nat.lt_of_le_of_lt (Nat.pow_le_pow_right (by decide) (by omega : j ≤ 62)) (by decide)
      simp only [if_true]
      rw [shl1 j (by omega), or_i64 (setOf j fun j => B l j i) (2 ^ j) (setOf_62 _ _ (by omega)) h2]
      simpa using next
  · refine Ev.step (fun _ => rfl) ?_
    simp only [spec_orBelow.l0, if_neg (show ¬ (n : Int) < (n : Int) by omega)]
    exact Ev.now _
theorem all_eq (n : Nat) (l : List Int) (hn : n ≤ 10) : impl_Order_all.f (n : Int) l = some ((2 ^ n - 1 : Nat) : Int) := by
  unfold impl_Order_all.f
  rw [if_pos (by omega), pow_of n (by omega) (by omega), Int.toNat_natCast]
  have := Nat.two_pow_pos n
  congr 1
  omega
theorem pSame_ev (l l' : List Int) (hl : l.length ≤ 140737488355328) : Ev (fun k => laws_pSame.f k l l') (decide (l = l')) := by
  unfold laws_pSame.f
  by_cases h : (l.length : Int) = (l'.length : Int)
  · simp only [if_pos h]
    refine Ev.to (Ev.all (fun i k => laws_pSame.l0 k l l' (l.length : Int) (i : Int)) l.length (fun i => decide (l.getD i 0 = l'.getD i 0)) ?_ ?_ ?_) ?_
    · intro i r hi hp next
      refine Ev.step (fun _ => rfl) ?_
      simp only [laws_pSame.l0, if_pos (show (i : Int) < (l.length : Int) by omega), if_pos (show (0 : Int) ≤ (i : Int) by omega), if_pos (show (i : Int) < (l'.length : Int) by omega), rd_nat, if_pos (of_decide_eq_true hp), next64 i l.length hi (by omega)]
      exact next
    · intro i hi hp
      refine Ev.step (fun _ => rfl) ?_
      simp only [laws_pSame.l0, if_pos (show (i : Int) < (l.length : Int) by omega), if_pos (show (0 : Int) ≤ (i : Int) by omega), if_pos (show (i : Int) < (l'.length : Int) by omega), rd_nat, if_neg (of_decide_eq_false hp)]
      exact Ev.now _
    · refine Ev.step (fun _ => rfl) ?_
      simp only [laws_pSame.l0, if_neg (show ¬ (l.length : Int) < (l.length : Int) by omega)]
      exact Ev.now _
    · rw [Bool.eq_iff_iff, allB_iff, decide_eq_true_iff]
      constructor
      · intro H
        exact list_ext_getD (by omega) fun i hi => of_decide_eq_true (H i hi)
      · rintro rfl i _
        simp
  · simp only [if_neg h]
    refine Ev.to (Ev.now _) ?_
    symm
    rw [decide_eq_false_iff_not]
    rintro rfl
    exact h rfl
theorem pSameOrder_ev (n m : Int) (l l' : List Int) (hl : l.length ≤ 140737488355328) : Ev (fun k => laws_pSameOrder.f k n l m l') (decide (n = m ∧ l = l')) := by
  unfold laws_pSameOrder.f
  by_cases h : n = m
  · simp only [if_pos h]
    refine Ev.bind (pSame_ev l l' hl) (Ev.to (Ev.now _) (by simp [h]))
  · simp only [if_neg h]
    exact Ev.to (Ev.now _) (by simp [h])
end Go.Proofs.YtjdkcafpgebjfaaDoor.M
namespace Go.Proofs.YtjdkcafpgebjfaaDoor.P
open Go.RowKit Go.Proofs.YtjdkcafpgebjfaaDoorW.PrintWords Go.Proofs.YtjdkcafpgebjfaaDoorW.PrintLast Go.Proofs.YtjdkcafpgebjfaaDoorW.PrintMore
open Bool renaming true → T, false → F
open List renaming setIfInBounds_toArray → L_, set_cons_zero → M_, set_cons_succ → N_, map_toArray → P_, map_cons → Q_, map_nil → R_, length_drop → S_, length_take → U_
open Aside0 renaming mk → A_
attribute [local go_sem] max2_int min2_int max_two min_two max_three min_three max_four min_four
set_option linter.unusedVariables false
set_option linter.unusedSimpArgs false
attribute [local go_sem] fldOrder_0 fldOrder_1
def spec_orSet.l0 : Nat → Int → List Int → Int → Int → Option (Int)
 | 0,_,_,_,_=>none
 | k + 1,x3,x6,x7,x8=>if x8 < x7 then (if 0 ≤ x8 then (if x8 < (x6.length : Int) then (if 0 ≤ (rd x6 x8) then (spec_orSet.l0 k (Go.bits .or .i64 x3 (shl .i64 1 (rd x6 x8))) x6 x7 (wrap64 (x8 + 1))) else (none)) else (none)) else (none)) else (some x3)
def spec_orSet.f (k : Nat) (l0 : List Int) : Option (Int) := spec_orSet.l0 k 0 l0 (l0.length : Int) 0
def spec_orNames.f (k : Nat) (a0 : Int) (l1 : List Int) : Option (Bool) := if (l1.length : Int) = a0 then ((spec_l1All.f k l1 0 (wrap64 (a0 - 1))).bind fun t1150 => (if t1150 = true then ((spec_orSet.f k l1).bind fun t1151 => (if 0 ≤ a0 then (some (t1151 == (wrap64 ((shl .i64 1 a0) - 1)))) else (none))) else (some false))) else (some false)
def spec_orExtends.l0 : Nat → List Int → List Int → Int → Int → Int → List Int → Option (Bool)
 | 0,_,_,_,_,_,_=>none
 | k + 1,x1,x12,x13,x14,x1153000,x1153001=>if x14 < x13 then (if 0 ≤ x14 then (if x14 < (x12.length : Int) then ((spec_orBelow.f k x1153000 x1153001 (rd x12 x14)).bind fun t1155=>(if x14 ≤ (x1.length : Int) then ((spec_orSet.f k (x1.take (x14 : Int).toNat)).bind fun t1157=>(if (Go.bits .andNot .i64 t1155 t1157) = 0 then (spec_orExtends.l0 k x1 x12 x13 (wrap64 (x14 + 1)) x1153000 x1153001) else (some false))) else (none))) else (none)) else (none)) else (some true)
def spec_orExtends.f (k : Nat) (a0_0 : Int) (l0_1 : List Int) (l1 : List Int) : Option (Bool) := (spec_orNames.f k a0_0 l1).bind fun t1153 => (if t1153 = true then (spec_orExtends.l0 k l1 l1 (l1.length : Int) 0 a0_0 l0_1) else (some false))
def spec_IsExtension.f (k : Nat) (a0_0 : Int) (l0_1 : List Int) (l1 : List Int) : Option (Bool × Bool) := (spec_orGood.f k a0_0 l0_1).bind fun t1159 => (if t1159 = true then ((spec_orExtends.f k a0_0 l0_1 l1).bind fun t1160 => (some (t1160, true))) else (some (false, false)))
def spec_l1Has.l0 : Nat → Int → List Int → Int → Int → Option (Bool)
 | 0,_,_,_,_=>none
 | k + 1,x1,x7,x8,x9=>if x9 < x8 then (if 0 ≤ x9 then (if x9 < (x7.length : Int) then (if (rd x7 x9) = x1 then (some true) else (spec_l1Has.l0 k x1 x7 x8 (wrap64 (x9 + 1)))) else (none)) else (none)) else (some false)
def spec_l1Has.f (k : Nat) (l0 : List Int) (a1 : Int) : Option (Bool) := spec_l1Has.l0 k a1 l0 (l0.length : Int) 0
end Go.Proofs.YtjdkcafpgebjfaaDoor.P
namespace Go.Proofs.YtjdkcafpgebjfaaDoor.P
open Go.RowKit Go.Proofs.YtjdkcafpgebjfaaDoorW.PrintWords Go.Proofs.YtjdkcafpgebjfaaDoorW.PrintLast Go.Proofs.YtjdkcafpgebjfaaDoorW.PrintMore
open Bool renaming true → T, false → F
open List renaming setIfInBounds_toArray → L_, set_cons_zero → M_, set_cons_succ → N_, map_toArray → P_, map_cons → Q_, map_nil → R_, length_drop → S_, length_take → U_
open Aside0 renaming mk → A_
attribute [local go_sem] max2_int min2_int max_two min_two max_three min_three max_four min_four
set_option linter.unusedVariables false
set_option linter.unusedSimpArgs false
attribute [local go_sem] fldOrder_0 fldOrder_1
mutual
def spec_orFirst.l0 : Nat → List Int → Int → List Int → Option (List Int)
 | 0,_,_,_=>none
 | k + 1,x3,x1099000,x1099001=>if (x3.length : Int) < x1099000 then (spec_orFirst.l1 k x3 0 x1099000 x1099001) else (some x3)
def spec_orFirst.l1 : Nat → List Int → Int → Int → List Int → Option (List Int)
 | 0,_,_,_,_=>none
 | k + 1,x3,x4,x1099000,x1099001=>(spec_l1Has.f k x3 x4).bind fun t1099=>(if t1099 = true then (spec_orFirst.l1 k x3 (wrap64 (x4 + 1)) x1099000 x1099001) else ((spec_orBelow.f k x1099000 x1099001 x4).bind fun t1100=>((spec_orSet.f k x3).bind fun t1101=>(if (Go.bits .andNot .i64 t1100 t1101) = 0 then (if x3.length < 17592186044416 then (spec_orFirst.l0 k (x3 ++ [x4]) x1099000 x1099001) else (none)) else (spec_orFirst.l1 k x3 (wrap64 (x4 + 1)) x1099000 x1099001)))))
end
def spec_orFirst.f (k : Nat) (a0_0 : Int) (l0_1 : List Int) : Option (List Int) := spec_orFirst.l0 k ([] : List Int) a0_0 l0_1
end Go.Proofs.YtjdkcafpgebjfaaDoor.P
namespace Go.Proofs.YtjdkcafpgebjfaaDoor.M
open Go.RowKit Go.Proofs.YtjdkcafpgebjfaaDoorW.PrintMore Go.Proofs.YtjdkcafpgebjfaaDoorW.PrintLast Go.Proofs.YtjdkcafpgebjfaaDoorW.PrintWords Go.Proofs.YtjdkcafpgebjfaaDoor.P
theorem ints_of {z : List Int} (h : ∀ x ∈ z, 0 ≤ x) : z = ints (z.map Int.toNat) := by
  unfold ints
  rw [List.map_map]
  conv => lhs; rw [← List.map_id z]
  apply List.map_congr_left
  intro x hx
  have := h x hx
  simp; omega
theorem ints_nat (l : List Nat) : (ints l).map Int.toNat = l := by
  unfold ints
  rw [List.map_map]
  conv => rhs; rw [← List.map_id l]
  apply List.map_congr_left
  intro x _
  simp
theorem ints_rd (l : List Nat) (q : Nat) (h : q < l.length) : rd (ints l) (q : Int) = ((l.getD q 0 : Nat) : Int) := by rw [rd_nat, ints_getD _ _ h]
theorem take_next (l : List Nat) (i : Nat) (h : i < l.length) : l.take (i + 1) = l.take i ++ [l.getD i 0] := by
  rw [List.take_add_one]
  simp [h]
theorem getD_mem (l : List Nat) (i : Nat) (h : i < l.length) : l.getD i 0 ∈ l := by simp [h]
def setN (l : List Nat) : Nat := l.foldl (fun s x => s ||| 2 ^ x) 0
theorem setN_snoc (l : List Nat) (x : Nat) : setN (l ++ [x]) = setN l ||| 2 ^ x := by simp [setN]
theorem testBit_setN (l : List Nat) (j : Nat) : (setN l).testBit j = decide (j ∈ l) := by
  have key : ∀ (l : List Nat) (s : Nat), (l.foldl (fun s x => s ||| 2 ^ x) s).testBit j = (s.testBit j || decide (j ∈ l)) := by
    intro l
    induction l with
    | nil => intro s; simp
    | cons x l ih =>
      intro s
      rw [List.foldl_cons, ih, Nat.testBit_or, Nat.testBit_two_pow]
      by_cases h : x = j
      · subst h; simp
      · have : ¬ j = x := fun e => h e.symm
        simp [h, this]
  rw [setN, key]; simp
theorem setN_lt (l : List Nat) (n : Nat) (h : ∀ x ∈ l, x < n) : setN l < 2 ^ n := by
  apply Nat.lt_pow_two_of_testBit
  intro j hj
  rw [testBit_setN, decide_eq_false_iff_not]
  intro hm
  have := h j hm
  omega
theorem setN_62 (l : List Nat) (n : Nat) (hn : n ≤ 62) (h : ∀ x ∈ l, x < n) : setN l < 9223372036854775808 := lt62 (setN_lt l n h) hn
theorem pow_62 (j : Nat) (h : j ≤ 62) : (2 : Nat) ^ j < 9223372036854775808 := Nat.lt_of_le_of_lt (Nat.pow_le_pow_right (by decide) h) (by decide)
theorem or_set (s j : Nat) (hs : s < 9223372036854775808) (hj : j ≤ 62) : Go.bits .or .i64 (s : Int) (shl .i64 1 (j : Int)) = ((s ||| 2 ^ j : Nat) : Int) := by
  rw [shl1 j hj, or_i64 _ _ hs (pow_62 j hj)]
theorem and_bit (s j : Nat) (hs : s < 9223372036854775808) (hj : j ≤ 64) : Go.bits .and .i64 (shr .i64 (s : Int) (j : Int)) 1 = if s.testBit j then 1 else 0 := by
  have hl : s / 2 ^ j < 9223372036854775808 := Nat.lt_of_le_of_lt (Nat.div_le_self _ _) (by omega)
  rw [shr_nat s j hj, show (1 : Int) = ((1 : Nat) : Int) from rfl, and_i64 _ 1 hl (by decide), and_one]
  cases s.testBit j <;> rfl
theorem orSet_ev (l : List Nat) (n : Nat) (hn : n ≤ 62) (h : ∀ x ∈ l, x < n) (hl : l.length ≤ 140737488355328) : Ev (fun k => spec_orSet.f k (ints l)) ((setN l : Nat) : Int) := by
  unfold spec_orSet.f
  rw [ints_length]
  have e0 : setN l = setN (l.take l.length) := by rw [List.take_length]
  rw [e0]
  refine Ev.up (fun i k => spec_orSet.l0 k ((setN (l.take i) : Nat) : Int) (ints l) (l.length : Int) (i : Int)) l.length ?_ ?_
  · intro i hi next
    have hm := h _ (getD_mem l i hi)
    refine Ev.step (fun _ => rfl) ?_
    simp only [spec_orSet.l0, if_pos (show (i : Int) < (l.length : Int) by omega), if_pos (show (0 : Int) ≤ (i : Int) by omega), ints_length, ints_rd l i hi, if_pos (show (0 : Int) ≤ ((l.getD i 0 : Nat) : Int) by omega),
      or_set _ _ (setN_62 (l.take i) n hn fun x hx => h x (List.mem_of_mem_take hx)) (show l.getD i 0 ≤ 62 by omega), ← setN_snoc, ← take_next l i hi, next64 i l.length hi hl]
    exact next
  · refine Ev.step (fun _ => rfl) ?_
    simp only [spec_orSet.l0, if_neg (show ¬ (l.length : Int) < (l.length : Int) by omega)]
    exact Ev.now _
def isName (n : Nat) (z : List Int) : Bool := allIn z 0 ((n : Int) - 1) && (decide (z.length = n) && setN (z.map Int.toNat) == 2 ^ n - 1)
theorem allIn_nat {z : List Int} {n : Nat} (h : allIn z 0 ((n : Int) - 1) = true) : ∃ l, z = ints l ∧ ∀ x ∈ l, x < n := by
  have h := of_decide_eq_true h
  refine ⟨z.map Int.toNat, ints_of fun x hx => (h x hx).1, ?_⟩
  intro x hx
  rw [List.mem_map] at hx
  obtain ⟨y, hy, rfl⟩ := hx
  have := h y hy
  omega
theorem pow_m1 (n : Nat) (hn : n ≤ 10) : wrap64 (shl .i64 1 (n : Int) - 1) = ((2 ^ n - 1 : Nat) : Int) := by
  rw [pow_of n (by omega) (by omega), Int.toNat_natCast]
  have := Nat.two_pow_pos n
  omega
theorem beq_cast (a b : Nat) : (((a : Int)) == ((b : Nat) : Int)) = (a == b) := by
  rw [Bool.eq_iff_iff, beq_iff_eq, beq_iff_eq]; omega
theorem isNaming_ev (n : Nat) (hn : n ≤ 10) (z : List Int) (hz : z.length ≤ 140737488355328) : Ev (fun k => impl_isNaming.f k z (n : Int)) (isName n z) := by
  unfold impl_isNaming.f isName
  rw [wrap64_in _ (by omega) (by omega)]
  refine Ev.bind (allWithin_ev z _ _ hz) ?_
  cases ha : allIn z 0 ((n : Int) - 1) with
  | false => simp only [Bool.false_eq_true, if_false, Bool.false_and]; exact Ev.now _
  | true =>
    obtain ⟨l, rfl, hl⟩ := allIn_nat ha
    rw [ints_length] at hz
    simp only [if_true, Bool.true_and, ints_length, ints_nat]
    refine Ev.up (fun i k => impl_isNaming.l0 k (ints l) (n : Int) ((setN (l.take i) : Nat) : Int) (ints l) (l.length : Int) (i : Int)) l.length ?_ ?_
    · intro i hi next
      have hm := hl _ (getD_mem l i hi)
      refine Ev.step (fun _ => rfl) ?_
      simp only [impl_isNaming.l0, if_pos (show (i : Int) < (l.length : Int) by omega), if_pos (show (0 : Int) ≤ (i : Int) by omega), ints_length, ints_rd l i hi, if_pos (show (0 : Int) ≤ ((l.getD i 0 : Nat) : Int) by omega),
        or_set _ _ (setN_62 (l.take i) n (by omega) fun x hx => hl x (List.mem_of_mem_take hx)) (show l.getD i 0 ≤ 62 by omega), ← setN_snoc, ← take_next l i hi, next64 i l.length hi hz]
      exact next
    · refine Ev.step (fun _ => rfl) ?_
      simp only [impl_isNaming.l0, if_neg (show ¬ (l.length : Int) < (l.length : Int) by omega), ints_length, List.take_length]
      by_cases h : l.length = n
      · simp only [if_pos (show (l.length : Int) = (n : Int) by omega), if_pos (show (0 : Int) ≤ (n : Int) by omega), pow_m1 n hn, decide_eq_true h, Bool.true_and, beq_cast]
        exact Ev.now _
      · simp only [if_neg (show ¬ (l.length : Int) = (n : Int) by omega), decide_eq_false h, Bool.false_and]
        exact Ev.now _
def bel (n : Nat) (l : List Int) (x : Nat) : Nat := row (mir n l) x
theorem testBit_bel {n : Nat} {l : List Int} (h : Rel n l) (x j : Nat) : (bel n l x).testBit j = B l j x := mir_B h x j
theorem bel_set {n : Nat} (l : List Int) (x : Nat) (hx : x < n) : bel n l x = setOf n fun j => B l j x := relL_row n _ x hx
def isExt (n : Nat) (l : List Int) (z : List Nat) : Bool := allB z.length fun i => diff (bel n l (z.getD i 0)) (setN (z.take i)) == 0
theorem isExtension_ev {n : Nat} {l : List Int} (h : Rel n l) (z : List Int) (hz : z.length ≤ 140737488355328) : Ev (fun k => impl_Order_isExtension.f k (n : Int) l z) (isName n z && isExt n l (z.map Int.toNat)) := by
  have hn := h.le
  have hm := mir_rel h
  unfold impl_Order_isExtension.f
  refine Ev.bind (isNaming_ev n hn z hz) ?_
  cases hN : isName n z with
  | false => simp only [Bool.false_eq_true, if_false, Bool.false_and]; exact Ev.now _
  | true =>
    simp only [if_true, Bool.true_and]
    unfold isName at hN
    rw [Bool.and_eq_true] at hN
    obtain ⟨l', rfl, hl⟩ := allIn_nat hN.1
    rw [ints_length] at hz
    rw [ints_nat]
    refine Ev.bind (mirror_ev h) ?_
    simp only [ints_length]
    have st : ∀ i, i < l'.length → ∀ k, impl_Order_isExtension.l0 (k + 1) ((setN (l'.take i) : Nat) : Int) (ints l') (l'.length : Int) (i : Int) (n : Int) (mir n l) = if diff (bel n l (l'.getD i 0)) (setN (l'.take i)) = 0 then impl_Order_isExtension.l0 k ((setN (l'.take (i + 1)) : Nat) : Int) (ints l') (l'.length : Int) ((i + 1 : Nat) : Int) (n : Int) (mir n l) else some false := by
      intro i hi k
      have hx := hl _ (getD_mem l' i hi)
      have h62 := setN_62 (l'.take i) n (by omega) fun x hx => hl x (List.mem_of_mem_take hx)
      simp only [impl_Order_isExtension.l0, if_pos (show (i : Int) < (l'.length : Int) by omega), if_pos (show (0 : Int) ≤ (i : Int) by omega), ints_length, ints_rd l' i hi, if_pos (show (0 : Int) ≤ ((l'.getD i 0 : Nat) : Int) by omega), hm.len, if_pos (show ((l'.getD i 0 : Nat) : Int) < (n : Int) by omega), hm.rd,
        andNot_i64 _ _ (hm.row_62 _) h62, or_set _ _ h62 (show l'.getD i 0 ≤ 62 by omega), ← setN_snoc, ← take_next l' i hi, next64 i l'.length hi hz]
      by_cases hd : diff (bel n l (l'.getD i 0)) (setN (l'.take i)) = 0
      · rw [if_pos hd, if_pos (by unfold bel at hd; omega)]
      · rw [if_neg hd, if_neg (by unfold bel at hd; omega)]
    refine Ev.all (fun i k => impl_Order_isExtension.l0 k ((setN (l'.take i) : Nat) : Int) (ints l') (l'.length : Int) (i : Int) (n : Int) (mir n l)) l'.length _ ?_ ?_ ?_
    · intro i r hi hp next
      refine Ev.step (fun k => by rw [st i hi k, if_pos (beq_iff_eq.1 hp)]) next
    · intro i hi hp
      refine Ev.step (fun k => by rw [st i hi k, if_neg (beq_eq_false_iff_ne.1 hp)]) (Ev.now _)
    · refine Ev.step (fun _ => rfl) ?_
      simp only [impl_Order_isExtension.l0, if_neg (show ¬ (l'.length : Int) < (l'.length : Int) by omega)]
      exact Ev.now _
theorem IsExtension_ev (n : Int) (l z : List Int) (hl : l.length ≤ 140737488355328) (hz : z.length ≤ 140737488355328) : Ev (fun k => impl_IsExtension.f k n l z) (isOrd n l && (isName n.toNat z && isExt n.toNat l (z.map Int.toNat)), isOrd n l) := by
  unfold impl_IsExtension.f
  refine Ev.bind (IsOrder_ev n l hl) ?_
  cases ho : isOrd n l with
  | false => simp only [Bool.false_eq_true, if_false, Bool.false_and]; exact Ev.now _
  | true =>
    obtain ⟨m, rfl, h⟩ := isOrd_iff.1 ho
    simp only [if_true, Bool.true_and, Int.toNat_natCast]
    exact Ev.bind (isExtension_ev h.toRel z hz) (Ev.now _)
end Go.Proofs.YtjdkcafpgebjfaaDoor.M
namespace Go.Proofs.YtjdkcafpgebjfaaDoor.P
open Go.RowKit Go.Proofs.YtjdkcafpgebjfaaDoorW.PrintWords Go.Proofs.YtjdkcafpgebjfaaDoorW.PrintLast Go.Proofs.YtjdkcafpgebjfaaDoorW.PrintMore
open Bool renaming true → T, false → F
open List renaming setIfInBounds_toArray → L_, set_cons_zero → M_, set_cons_succ → N_, map_toArray → P_, map_cons → Q_, map_nil → R_, length_drop → S_, length_take → U_
open Aside0 renaming mk → A_
attribute [local go_sem] max2_int min2_int max_two min_two max_three min_three max_four min_four
set_option linter.unusedVariables false
set_option linter.unusedSimpArgs false
attribute [local go_sem] fldOrder_0 fldOrder_1
mutual
def laws_pLess.l0 : Nat → List Int → List Int → Int → Option (Bool)
 | 0,_,_,_=>none
 | k + 1,x0,x1,x5=>if x5 < (x0.length : Int) then (laws_pLess.j1 k x0 x1 x5 (decide (x5 < (x1.length : Int)))) else (laws_pLess.j1 k x0 x1 x5 false)
def laws_pLess.j1 : Nat → List Int → List Int → Int → Bool → Option (Bool)
 | 0,_,_,_,_=>none
 | k + 1,x0,x1,x5,x15=>if x15 = true then (if 0 ≤ x5 then (if x5 < (x0.length : Int) then (if x5 < (x1.length : Int) then (if (rd x0 x5) = (rd x1 x5) then (laws_pLess.l0 k x0 x1 (wrap64 (x5 + 1))) else (some (decide ((rd x0 x5) < (rd x1 x5))))) else (none)) else (none)) else (none)) else (some (decide ((x0.length : Int) < (x1.length : Int))))
end
def laws_pLess.f (k : Nat) (l0 : List Int) (l1 : List Int) : Option (Bool) := laws_pLess.l0 k l0 l1 0
def spec_l1Least.f (a0 : Int) (a1 : Int) : Option (Int) := if a0 < a1 then (some a0) else (some a1)
def spec_orUpTo.l0 : Nat → Int → List Int → Int → Option (List Int)
 | 0,_,_,_=>none
 | k + 1,x0,x3,x4=>if x4 < x0 then (if x3.length < 17592186044416 then (spec_orUpTo.l0 k x0 (x3 ++ [x4]) (wrap64 (x4 + 1))) else (none)) else (some x3)
def spec_orUpTo.f (k : Nat) (a0 : Int) : Option (List Int) := spec_orUpTo.l0 k a0 ([] : List Int) 0
def spec_l1Cur_names.l0 : Nat → List Int → Int → Int → List Int → Int → Int → Option (List Int × Int × Int)
 | 0,_,_,_,_,_,_=>none
 | k + 1,x5,x14,x15,x1000,x1001,x1002=>if x15 < x14 then ((spec_l1Cur_pick.f x1000 x1001 x1002 (x5.length : Int)).bind fun bt1112=>(if 0 ≤ x15 then (if x15 < (x5.length : Int) then (if 0 ≤ bt1112.1 then (if bt1112.1 < (x5.length : Int) then (spec_l1Cur_names.l0 k ((x5.set (x15 : Int).toNat (rd x5 bt1112.1)).set (bt1112.1 : Int).toNat (rd x5 x15)) x14 (wrap64 (x15 + 1)) x1000 bt1112.2.1 bt1112.2.2) else (none)) else (none)) else (none)) else (none))) else ((spec_l1Cur_one.f x1000 x1001 x1002 10).bind fun bt1119=>(if bt1119.1 = true then ((spec_l1Cur_pick.f x1000 bt1119.2.1 bt1119.2.2 3).bind fun bt1122=>(if x5.length < 17592186044416 then (some ((x5 ++ [wrap64 (bt1122.1 - 1)]),bt1122.2.1,bt1122.2.2)) else (none))) else (some (x5,bt1119.2.1,bt1119.2.2))))
def spec_l1Cur_names.f (k : Nat) (s0_0 : List Int) (s0_1 : Int) (s0_2 : Int) (a1 : Int) : Option (List Int × Int × Int) := (spec_l1Least.f a1 11).bind fun t1108 => ((spec_orUpTo.f k t1108).bind fun t1109 => (spec_l1Cur_names.l0 k t1109 (t1109.length : Int) 0 s0_0 s0_1 s0_2))
def spec_l1Most.f (a0 : Int) (a1 : Int) : Option (Int) := if a0 > a1 then (some a0) else (some a1)
end Go.Proofs.YtjdkcafpgebjfaaDoor.P
namespace Go.Proofs.YtjdkcafpgebjfaaDoor.P
open Go.RowKit Go.Proofs.YtjdkcafpgebjfaaDoorW.PrintWords Go.Proofs.YtjdkcafpgebjfaaDoorW.PrintLast Go.Proofs.YtjdkcafpgebjfaaDoorW.PrintMore
open Bool renaming true → T, false → F
open List renaming setIfInBounds_toArray → L_, set_cons_zero → M_, set_cons_succ → N_, map_toArray → P_, map_cons → Q_, map_nil → R_, length_drop → S_, length_take → U_
open Aside0 renaming mk → A_
attribute [local go_sem] max2_int min2_int max_two min_two max_three min_three max_four min_four
set_option linter.unusedVariables false
set_option linter.unusedSimpArgs false
attribute [local go_sem] fldOrder_0 fldOrder_1
def spec_DrawIsExtension.j0 : Nat → Bool → List Int → Int → Int → Int → List Int → Option (Int × List Int × List Int)
 | 0,_,_,_,_,_,_=>none
 | k + 1,x16,x1130000,x1130001,x1130002,x1137000,x1137001=>if x16 = true then ((spec_orFirst.f k x1137000 x1137001).bind fun t1141=>(some (x1137000,x1137001,t1141))) else ((spec_l1Most.f 0 x1137000).bind fun t1144=>((spec_l1Cur_names.f k x1130000 x1130001 x1130002 t1144).bind fun bt1145=>(some (x1137000,x1137001,bt1145.1))))
def spec_DrawIsExtension.f (k : Nat) (l0 : List Int) : Option (Int × List Int × List Int) := (spec_l1Cur_anyOrder.f k l0 0 0 6).bind fun bt1130 => ((spec_orGood.f k bt1130.1 bt1130.2.1).bind fun t1137 => (if t1137 = true then ((spec_l1Cur_one.f l0 bt1130.2.2.1 bt1130.2.2.2 2).bind fun bt1138 => (spec_DrawIsExtension.j0 k bt1138.1 l0 bt1138.2.1 bt1138.2.2 bt1130.1 bt1130.2.1)) else (spec_DrawIsExtension.j0 k false l0 bt1130.2.2.1 bt1130.2.2.2 bt1130.1 bt1130.2.1)))
end Go.Proofs.YtjdkcafpgebjfaaDoor.P
namespace Go.Proofs.YtjdkcafpgebjfaaDoor.M
open Go.RowKit Go.Proofs.YtjdkcafpgebjfaaDoorW.PrintMore Go.Proofs.YtjdkcafpgebjfaaDoorW.PrintLast Go.Proofs.YtjdkcafpgebjfaaDoorW.PrintWords Go.Proofs.YtjdkcafpgebjfaaDoor.P
theorem length_all (n : Nat) (l : List Nat) (h : ∀ x, x < n → x ∈ l) : n ≤ l.length := by
  induction n generalizing l with
  | zero => omega
  | succ n ih =>
    have hm := h n (by omega)
    have := ih (l.erase n) (fun x hx => (List.mem_erase_of_ne (by omega)).2 (h x (by omega)))
    rw [List.length_erase_of_mem hm] at this
    have := List.length_pos_of_mem hm
    omega
def free (n : Nat) (l : List Int) (F : List Nat) (x : Nat) : Bool := !(decide (x ∈ F)) && diff (bel n l x) (setN F) == 0
theorem sub_lt {a b : Nat} (h : ∀ j, a.testBit j = true → b.testBit j = true) (hne : a ≠ b) : a < b := by
  have e : a = a &&& b := by
    apply Nat.eq_of_testBit_eq
    intro j
    rw [Nat.testBit_and]
    cases ha : a.testBit j with
    | false => rfl
    | true => rw [h j ha]; rfl
  have : a ≤ b := by rw [e]; exact Nat.and_le_right
  omega
theorem free_ex {n : Nat} {l : List Int} (o : Ord n l) (F : List Nat) (hF : F.length < n) : ∃ x, x < n ∧ free n l F x = true := by
  obtain ⟨x, hx, hxF⟩ : ∃ x, x < n ∧ x ∉ F := by
    apply Classical.byContradiction
    intro hc
    have := length_all n F fun x hx => Classical.byContradiction fun hn => hc ⟨x, hx, hn⟩
    omega
  have key : ∀ m x, bel n l x < m → x < n → x ∉ F → ∃ x, x < n ∧ free n l F x = true := by
    intro m
    induction m with
    | zero => intro x h; omega
    | succ m ih =>
      intro x hm hx hxF
      by_cases hd : diff (bel n l x) (setN F) = 0
      · exact ⟨x, hx, by simp [free, hxF, hd]⟩
      · rw [diff_zero] at hd
        obtain ⟨y, hy⟩ := Classical.not_forall.1 hd
        obtain ⟨hy1, hy2⟩ := Classical.not_imp.1 hy
        rw [testBit_bel o.toRel] at hy1
        rw [testBit_setN, decide_eq_true_iff] at hy2
        refine ih y ?_ (o.toRel.B_lt' hy1) hy2
        have : bel n l y < bel n l x := by
          apply sub_lt
          · intro j hj
            rw [testBit_bel o.toRel] at hj ⊢
            exact o.trans _ _ _ hj hy1
          · intro he
            have h1 := testBit_bel o.toRel x y
            rw [← he, testBit_bel o.toRel, hy1, o.irr] at h1
            cases h1
        omega
  exact key _ x (Nat.lt_succ_self _) hx hxF
theorem free_least {n : Nat} {l : List Int} (o : Ord n l) (F : List Nat) (hF : F.length < n) : ∃ x, x < n ∧ free n l F x = true ∧ ∀ y, y < x → free n l F y = false := by
  obtain ⟨x, hx, h⟩ := free_ex o F hF
  obtain ⟨j, hj, h1, h2⟩ := least_false (n := n) (p := fun x => !free n l F x) ⟨x, hx, by simp [h]⟩
  exact ⟨j, hj, by simpa using h1, fun y hy => by simpa using h2 y hy⟩
structure Greedy (n : Nat) (l : List Int) (F : List Nat) : Prop where
  lt : ∀ x ∈ F, x < n
  le : F.length ≤ n
  least : ∀ i, i < F.length → ∀ y, y < n → free n l (F.take i) y = true → F.getD i 0 ≤ y
  ok : ∀ i, i < F.length → free n l (F.take i) (F.getD i 0) = true
theorem Greedy.nil (n : Nat) (l : List Int) : Greedy n l [] := ⟨by simp, by simp, by simp, by simp⟩
theorem Greedy.snoc {n : Nat} {l : List Int} {F : List Nat} (g : Greedy n l F) (hF : F.length < n) {x : Nat} (hx : x < n) (hf : free n l F x = true) (h2 : ∀ y, y < x → free n l F y = false) : Greedy n l (F ++ [x]) where
  ok := by
    intro i hi
    rw [List.length_append, List.length_singleton] at hi
    by_cases hi2 : i < F.length
    · have e : (F ++ [x]).getD i 0 = F.getD i 0 := by simp [List.getElem?_append_left hi2, hi2]
      rw [e, List.take_append_of_le_length (by omega)]
      exact g.ok i hi2
    · have hi3 : i = F.length := by omega
      subst hi3
      have e : (F ++ [x]).getD F.length 0 = x := by simp
      rw [e, List.take_append_of_le_length (Nat.le_refl _), List.take_length]
      exact hf
  lt := by
    intro y hy
    rw [List.mem_append, List.mem_singleton] at hy
    rcases hy with hy | rfl
    · exact g.lt y hy
    · exact hx
  le := by simp; omega
  least := by
    intro i hi y hy hf
    rw [List.length_append, List.length_singleton] at hi
    by_cases hi2 : i < F.length
    · have e : (F ++ [x]).getD i 0 = F.getD i 0 := by simp [List.getElem?_append_left hi2, hi2]
      rw [e]
      refine g.least i hi2 y hy ?_
      rwa [List.take_append_of_le_length (by omega)] at hf
    · have hi3 : i = F.length := by omega
      subst hi3
      have e : (F ++ [x]).getD F.length 0 = x := by simp
      rw [e]
      rw [List.take_append_of_le_length (Nat.le_refl _), List.take_length] at hf
      apply Nat.le_of_not_lt
      intro hc
      rw [h2 y hc] at hf
      cases hf
theorem FirstExtension_tot {n : Nat} {l : List Int} (o : Ord n l) : Tot (fun k => impl_FirstExtension.f k (n : Int) l) (fun r => r.2 = true ∧ ∃ F, r.1 = ints F ∧ Greedy n l F ∧ F.length = n) := by
  have hn := o.le
  have hm := mir_rel o.toRel
  unfold impl_FirstExtension.f
  refine Tot.ebind (Ev.to (IsOrder_ev n l (by have := o.len; omega)) (isOrd_iff.2 ⟨n, rfl, o⟩)) ?_
  simp only [if_true]
  refine Tot.ebind (mirror_ev o.toRel) ?_
  refine Tot.up (fun i (F : List Nat) k => impl_FirstExtension.l0 k (ints F) ((setN F : Nat) : Int) (n : Int) l (n : Int) (mir n l)) n (fun i F => Greedy n l F ∧ F.length = i) ?_ ?_ 0 (Nat.zero_le _) [] ⟨Greedy.nil n l, rfl⟩
  · rintro i F hi ⟨g, hF⟩ next
    subst hF
    obtain ⟨x, hx, hf, hl⟩ := free_least o F hi
    have hfx := hf
    have h62 := setN_62 F n (by omega) g.lt
    refine Tot.step (fun _ => rfl) ?_
    simp only [impl_FirstExtension.l0, ints_length, if_pos (show (F.length : Int) < (n : Int) by omega)]
    refine Tot.up (fun j (_ : Unit) k => impl_FirstExtension.l1 k (ints F) ((setN F : Nat) : Int) (n : Int) (j : Int) (n : Int) l (n : Int) (mir n l)) x (fun _ _ => True) ?_ ?_ 0 (Nat.zero_le _) () trivial
    · intro j _ hj _ next
      refine Tot.step (fun _ => rfl) ?_
      simp only [impl_FirstExtension.l1, if_pos (show (j : Int) < (n : Int) by omega), if_pos (show (0 : Int) ≤ (j : Int) by omega), and_bit _ j h62 (show j ≤ 64 by omega), testBit_setN, hm.len, hm.rd, andNot_i64 _ _ (hm.row_62 _) h62, next64 j x hj (by omega)]
      have hfj := hl j hj
      unfold free at hfj
      by_cases hjF : j ∈ F
      · simp only [hjF, decide_true, if_true]
        simp only [if_neg (show ¬ (1 : Int) = 0 by decide)]
        exact next () trivial
      · simp only [hjF, decide_false, Bool.not_false, Bool.true_and, beq_eq_false_iff_ne] at hfj
        simp only [hjF, decide_false, Bool.false_eq_true, if_false, if_true]
        simp only [if_neg (show ¬ ((diff (row (mir n l) j) (setN F) : Nat) : Int) = 0 by unfold bel at hfj; omega)]
        exact next () trivial
    · intro _ _
      refine Tot.step (fun _ => rfl) ?_
      unfold free at hf
      simp only [Bool.and_eq_true, Bool.not_eq_true', decide_eq_false_iff_not, beq_iff_eq] at hf
      simp only [impl_FirstExtension.l1, if_pos (show (x : Int) < (n : Int) by omega), if_pos (show (0 : Int) ≤ (x : Int) by omega), and_bit _ x h62 (show x ≤ 64 by omega), testBit_setN, hm.len, hm.rd, andNot_i64 _ _ (hm.row_62 _) h62, hf.1, decide_false, Bool.false_eq_true, if_false, if_true]
      simp only [if_pos (show ((diff (row (mir n l) x) (setN F) : Nat) : Int) = 0 by have := hf.2; unfold bel at this; omega)]
      simp only [ints_length, if_pos (show F.length < 17592186044416 by omega), or_set _ _ h62 (show x ≤ 62 by omega), ← setN_snoc]
      have e : ints F ++ [(x : Int)] = ints (F ++ [x]) := by simp [ints]
      rw [e]
      exact next (F ++ [x]) ⟨g.snoc hi hx hfx hl, by simp⟩
  · rintro F ⟨g, hF⟩
    refine Tot.step (fun _ => rfl) ?_
    simp only [impl_FirstExtension.l0, ints_length, hF, if_neg (show ¬ (n : Int) < (n : Int) by omega)]
    exact Tot.now ⟨rfl, F, rfl, g, hF⟩
end Go.Proofs.YtjdkcafpgebjfaaDoor.M
namespace Go.Proofs.YtjdkcafpgebjfaaDoor.M
open Go.RowKit Go.Proofs.YtjdkcafpgebjfaaDoorW.PrintMore Go.Proofs.YtjdkcafpgebjfaaDoorW.PrintLast Go.Proofs.YtjdkcafpgebjfaaDoorW.PrintWords Go.Proofs.YtjdkcafpgebjfaaDoor.P
def sumN : Nat → (Nat → Nat) → Nat
  | 0, _ => 0
  | n + 1, f => sumN n f + f n
theorem sumN_congr {n : Nat} {f g : Nat → Nat} (h : ∀ x, x < n → f x = g x) : sumN n f = sumN n g := by
  induction n with
  | zero => rfl
  | succ n ih => rw [sumN, sumN, ih fun x hx => h x (by omega), h n (by omega)]
theorem sumN_zero {n : Nat} {f : Nat → Nat} (h : ∀ x, x < n → f x = 0) : sumN n f = 0 := by
  induction n with
  | zero => rfl
  | succ n ih => rw [sumN, ih fun x hx => h x (by omega), h n (by omega)]
theorem sumN_mul (n c : Nat) (f : Nat → Nat) : sumN n (fun x => c * f x) = c * sumN n f := by
  induction n with
  | zero => rfl
  | succ n ih => rw [sumN, sumN, ih, Nat.mul_add]
theorem sumN_add (n m : Nat) (f : Nat → Nat) : sumN (n + m) f = sumN n f + sumN m (fun y => f (n + y)) := by
  induction m with
  | zero => rfl
  | succ m ih => rw [← Nat.add_assoc, sumN, sumN, ih, Nat.add_assoc]
theorem sumN_ge (n x : Nat) (f : Nat → Nat) (hx : x < n) : f x ≤ sumN n f := by
  induction n with
  | zero => omega
  | succ n ih =>
    rw [sumN]
    by_cases h : x = n
    · subst h; omega
    · have := ih (by omega); omega
theorem sumN_le (n b : Nat) (f : Nat → Nat) (h : ∀ x, x < n → f x ≤ b) : sumN n f ≤ n * b := by
  induction n with
  | zero => rw [sumN]; omega
  | succ n ih =>
    have := ih fun x hx => h x (by omega)
    have := h n (by omega)
    rw [sumN, Nat.add_mul]
    omega
theorem sumN_mono (n : Nat) (f g : Nat → Nat) (h : ∀ x, x < n → f x ≤ g x) : sumN n f ≤ sumN n g := by
  induction n with
  | zero => exact Nat.le_refl _
  | succ n ih =>
    have := ih fun x hx => h x (by omega)
    have := h n (by omega)
    rw [sumN, sumN]
    omega
theorem bit_le {S x : Nat} (h : S.testBit x = true) : 2 ^ x ≤ S := Nat.ge_two_pow_of_testBit h
theorem testBit_less {S x : Nat} (h : S.testBit x = true) (j : Nat) : (S - 2 ^ x).testBit j = (S.testBit j && decide (j ≠ x)) := by
  have hp := Nat.two_pow_pos x
  have hx := h
  rw [Nat.testBit_eq_decide_div_mod_eq, decide_eq_true_iff] at hx
  have e0 : 2 ^ x * (S / 2 ^ x) + S % 2 ^ x = S := Nat.div_add_mod S (2 ^ x)
  have e1 : S / 2 ^ x = 2 * (S / 2 ^ x / 2) + 1 := by omega
  have hr : S % 2 ^ x < 2 ^ x := Nat.mod_lt _ hp
  generalize S / 2 ^ x / 2 = q at e1
  generalize S % 2 ^ x = r at e0 hr
  have e2 : S = 2 ^ (x + 1) * q + (2 ^ x + r) := by
    rw [← e0, e1, Nat.mul_add, Nat.pow_succ, Nat.mul_one, ← Nat.mul_assoc, Nat.add_assoc]
  have e3 : S - 2 ^ x = 2 ^ (x + 1) * q + r := by omega
  have e4 : 2 ^ x + r = 2 ^ x * 1 + r := by omega
  have hlt : r < 2 ^ (x + 1) := by rw [Nat.pow_succ]; omega
  have hlt2 : 2 ^ x + r < 2 ^ (x + 1) := by rw [Nat.pow_succ]; omega
  rw [e3, e2, Nat.testBit_two_pow_mul_add q hlt, Nat.testBit_two_pow_mul_add q hlt2, e4, Nat.testBit_two_pow_mul_add 1 hr]
  by_cases h1 : j < x
  · rw [if_pos (by omega), if_pos (by omega), if_pos h1]
    simp; omega
  · by_cases h2 : j = x
    · subst h2
      rw [if_pos (by omega), Nat.testBit_lt_two_pow hr]; simp
    · rw [if_neg (by omega), if_neg (by omega)]
      simp [h2]
def card (n S : Nat) : Nat := sumN n fun x => if S.testBit x then 1 else 0
theorem card_less {n S x : Nat} (hx : x < n) (h : S.testBit x = true) : card n (S - 2 ^ x) + 1 = card n S := by
  unfold card
  induction n with
  | zero => omega
  | succ n ih =>
    rw [sumN, sumN, testBit_less h]
    by_cases e : x = n
    · subst e
      have : sumN x (fun y => if (S - 2 ^ x).testBit y then 1 else 0) = sumN x (fun y => if S.testBit y then 1 else 0) := by
        apply sumN_congr
        intro y hy
        rw [testBit_less h]
        simp [show y ≠ x by omega]
      rw [this, h]
      simp
    · have := ih (by omega)
      simp only [show n ≠ x by omega, ne_eq, not_false_eq_true, decide_true, Bool.and_true]
      omega
theorem card_zero (n : Nat) : card n 0 = 0 := sumN_zero fun x _ => by simp
theorem card_full (n : Nat) : card n (2 ^ n - 1) = n := by
  have : ∀ m, m ≤ n → sumN m (fun x => if (2 ^ n - 1).testBit x then 1 else 0) = m := by
    intro m
    induction m with
    | zero => intro _; rfl
    | succ m ih => intro h; rw [sumN, ih (by omega), Nat.testBit_two_pow_sub_one, decide_eq_true (by omega)]; rfl
  exact this n (Nat.le_refl n)
theorem bit_ex {n S : Nat} (h : S < 2 ^ n) (h0 : S ≠ 0) : ∃ x, x < n ∧ S.testBit x = true := by
  obtain ⟨x, hx⟩ := Nat.exists_testBit_of_ne_zero h0
  refine ⟨x, Nat.lt_of_not_le fun hle => ?_, hx⟩
  rw [Nat.testBit_lt_two_pow (Nat.lt_of_lt_of_le h (Nat.pow_le_pow_right (by decide) hle))] at hx
  cases hx
theorem card_pos {n S : Nat} (h : S < 2 ^ n) (h0 : S ≠ 0) : 1 ≤ card n S := by
  obtain ⟨x, hx, hb⟩ := bit_ex h h0
  have := card_less hx hb
  omega
def last (b : Nat → Nat) (S x : Nat) : Bool := S.testBit x && diff (b x) (S - 2 ^ x) == 0
def cnt (n : Nat) (b : Nat → Nat) (S : Nat) : Nat :=
  if h : S = 0 then 1 else sumN n fun x => if last b S x then cnt n b (S - 2 ^ x) else 0
termination_by S
decreasing_by exact Nat.sub_lt (Nat.pos_of_ne_zero h) (Nat.two_pow_pos x)
theorem cnt_zero (n : Nat) (b : Nat → Nat) : cnt n b 0 = 1 := by rw [cnt]; simp
theorem cnt_pos {n : Nat} {b : Nat → Nat} {S : Nat} (h : S ≠ 0) : cnt n b S = sumN n fun x => if last b S x then cnt n b (S - 2 ^ x) else 0 := by rw [cnt, dif_neg h]
theorem last_lt {b : Nat → Nat} {S x : Nat} (h : last b S x = true) : S - 2 ^ x < S := by
  unfold last at h
  rw [Bool.and_eq_true] at h
  have := bit_le h.1
  have := Nat.two_pow_pos x
  omega
theorem cnt_le {n : Nat} (hn : n ≤ 10) (b : Nat → Nat) : ∀ S, S < 2 ^ n → cnt n b S ≤ 10 ^ card n S := by
  intro S
  induction S using Nat.strongRecOn with
  | _ S ih =>
    intro hS
    by_cases h0 : S = 0
    · subst h0; rw [cnt_zero, card_zero]; exact Nat.le_refl _
    · rw [cnt_pos h0]
      have hc := card_pos hS h0
      refine Nat.le_trans (sumN_le n (10 ^ (card n S - 1)) _ ?_) ?_
      · intro x hx
        by_cases hl : last b S x = true
        · rw [if_pos hl]
          have hlt := last_lt hl
          have hb : S.testBit x = true := by unfold last at hl; rw [Bool.and_eq_true] at hl; exact hl.1
          have := ih _ hlt (by omega)
          have e := card_less hx hb
          rwa [show card n (S - 2 ^ x) = card n S - 1 by omega] at this
        · rw [if_neg hl]; exact Nat.zero_le _
      · have e : 10 ^ card n S = 10 ^ (card n S - 1) * 10 := by rw [← Nat.pow_succ]; congr 1; omega
        rw [e, Nat.mul_comm]
        exact Nat.mul_le_mul_left _ hn
theorem card_le (n S : Nat) : card n S ≤ n := by
  have := sumN_le n 1 (fun x => if S.testBit x then 1 else 0) (fun x _ => by show (if _ then 1 else 0) ≤ 1; split <;> omega)
  unfold card
  omega
theorem cnt_small {n : Nat} (hn : n ≤ 10) (b : Nat → Nat) (S : Nat) (hS : S < 2 ^ n) : cnt n b S ≤ 10000000000 := by
  refine Nat.le_trans (cnt_le hn b S hS) ?_
  have : 10 ^ card n S ≤ 10 ^ 10 := Nat.pow_le_pow_right (by decide) (Nat.le_trans (card_le n S) hn)
  exact this
def ch : Nat → Nat → Nat
  | _, 0 => 1
  | 0, _ + 1 => 0
  | n + 1, k + 1 => ch n k + ch n (k + 1)
theorem ch_self : ∀ n, ch n n = 1 ∧ ∀ k, n < k → ch n k = 0
  | 0 => ⟨rfl, fun k hk => by obtain ⟨k, rfl⟩ : ∃ j, k = j + 1 := ⟨k - 1, by omega⟩; rfl⟩
  | n + 1 => by
    have ih := ch_self n
    refine ⟨by rw [ch, ih.1, ih.2 _ (by omega)], fun k hk => ?_⟩
    obtain ⟨k, rfl⟩ : ∃ j, k = j + 1 := ⟨k - 1, by omega⟩
    rw [ch, ih.2 _ (by omega), ih.2 _ (by omega)]
theorem ch_zero (n : Nat) : ch n 0 = 1 := by cases n <;> rfl
section
variable {n m : Nat} {bp bq br : Nat → Nat}
theorem both_bit {S : Nat} (hS : S < 2 ^ n) (T j : Nat) : (2 ^ n * T + S).testBit j = if j < n then S.testBit j else T.testBit (j - n) := Nat.testBit_two_pow_mul_add T hS j
theorem both_less1 {S x : Nat} (T : Nat) (h : S.testBit x = true) : 2 ^ n * T + S - 2 ^ x = 2 ^ n * T + (S - 2 ^ x) := by have := bit_le h; omega
theorem both_less2 {T y : Nat} (S : Nat) (h : T.testBit y = true) : 2 ^ n * T + S - 2 ^ (n + y) = 2 ^ n * (T - 2 ^ y) + S := by
  have h1 := bit_le h
  have h2 : 2 ^ n * (T - 2 ^ y) = 2 ^ n * T - 2 ^ n * 2 ^ y := Nat.mul_sub ..
  have h3 : 2 ^ n * 2 ^ y ≤ 2 ^ n * T := Nat.mul_le_mul_left _ h1
  rw [Nat.pow_add, h2]
  omega
theorem last_one {S T x : Nat} (hS : S < 2 ^ n) (hx : x < n) (h1 : ∀ j, (br x).testBit j = (bp x).testBit j) (hp : ∀ j, (bp x).testBit j = true → j < n) : last br (2 ^ n * T + S) x = last bp S x := by
  unfold last
  rw [both_bit hS, if_pos hx]
  cases hb : S.testBit x with
  | false => rfl
  | true =>
    rw [Bool.true_and, Bool.true_and, Bool.eq_iff_iff, beq_iff_eq, beq_iff_eq, diff_zero, diff_zero]
    have hS2 : S - 2 ^ x < 2 ^ n := Nat.lt_of_le_of_lt (Nat.sub_le _ _) hS
    rw [both_less1 T hb]
    constructor
    · intro H j hj
      have := H j (by rw [h1]; exact hj)
      rwa [both_bit hS2, if_pos (hp j hj)] at this
    · intro H j hj
      rw [h1] at hj
      rw [both_bit hS2, if_pos (hp j hj)]
      exact H j hj
theorem full_bits {S : Nat} (hS : S < 2 ^ n) : (S = 2 ^ n - 1) ↔ ∀ j, j < n → S.testBit j = true := by
  constructor
  · rintro rfl j hj
    rw [Nat.testBit_two_pow_sub_one, decide_eq_true hj]
  · intro H
    apply Nat.eq_of_testBit_eq
    intro j
    rw [Nat.testBit_two_pow_sub_one]
    by_cases hj : j < n
    · rw [H j hj, decide_eq_true hj]
    · rw [decide_eq_false hj, Nat.testBit_lt_two_pow (Nat.lt_of_lt_of_le hS (Nat.pow_le_pow_right (by decide) (by omega)))]
theorem last_two {S T y : Nat} (hS : S < 2 ^ n) (g : Bool) (h2 : ∀ j, (br (n + y)).testBit j = if j < n then g else (bq y).testBit (j - n)) : last br (2 ^ n * T + S) (n + y) = (last bq T y && (!g || decide (S = 2 ^ n - 1))) := by
  unfold last
  rw [both_bit hS, if_neg (by omega), show n + y - n = y by omega]
  cases hb : T.testBit y with
  | false => simp
  | true =>
    rw [Bool.true_and, Bool.true_and, both_less2 S hb, Bool.eq_iff_iff, Bool.and_eq_true, beq_iff_eq, beq_iff_eq, diff_zero, diff_zero]
    constructor
    · intro H
      refine ⟨fun j hj => ?_, ?_⟩
      · have := H (n + j) (by rw [h2, if_neg (by omega), show n + j - n = j by omega]; exact hj)
        rwa [both_bit hS, if_neg (by omega), show n + j - n = j by omega] at this
      · cases g with
        | false => rfl
        | true =>
          simp only [Bool.not_true, Bool.false_or, decide_eq_true_iff]
          rw [full_bits hS]
          intro j hj
          have := H j (by rw [h2, if_pos hj])
          rwa [both_bit hS, if_pos hj] at this
    · rintro ⟨H, hg⟩ j hj
      rw [h2] at hj
      rw [both_bit hS]
      by_cases hjn : j < n
      · rw [if_pos hjn] at hj ⊢
        subst hj
        simp only [Bool.not_true, Bool.false_or, decide_eq_true_iff] at hg
        exact (full_bits hS).1 hg j hjn
      · rw [if_neg hjn] at hj ⊢
        exact H _ hj
theorem cnt_sum_zero {b : Nat → Nat} {c : Nat → Nat} : sumN n (fun x => if last b 0 x then c x else 0) = 0 := sumN_zero fun x _ => by
  rw [if_neg]
  unfold last
  simp
theorem cnt_beside (h1 : ∀ x, x < n → ∀ j, (br x).testBit j = (bp x).testBit j) (h2 : ∀ y, y < m → ∀ j, (br (n + y)).testBit j = if j < n then false else (bq y).testBit (j - n)) (hp : ∀ x, x < n → ∀ j, (bp x).testBit j = true → j < n) :
    ∀ U S T, S < 2 ^ n → T < 2 ^ m → U = 2 ^ n * T + S → cnt (n + m) br U = ch (card n S + card m T) (card m T) * (cnt n bp S * cnt m bq T) := by
  intro U
  induction U using Nat.strongRecOn with
  | _ U ih =>
    intro S T hS hT hU
    by_cases h0 : U = 0
    · have hS0 : S = 0 := by omega
      have hT0 : T = 0 := by
        have hp0 := Nat.two_pow_pos n
        have : 2 ^ n * T = 0 := by omega
        rcases Nat.mul_eq_zero.1 this with h | h
        · omega
        · exact h
      subst h0 hS0 hT0
      rw [cnt_zero, cnt_zero, cnt_zero, card_zero, card_zero]
      rfl
    · rw [cnt_pos h0, sumN_add]
      have A : sumN n (fun x => if last br U x then cnt (n + m) br (U - 2 ^ x) else 0) = if S = 0 then 0 else ch (card n S + card m T - 1) (card m T) * (cnt n bp S * cnt m bq T) := by
        have : sumN n (fun x => if last br U x then cnt (n + m) br (U - 2 ^ x) else 0) = sumN n (fun x => (ch (card n S + card m T - 1) (card m T) * cnt m bq T) * (if last bp S x then cnt n bp (S - 2 ^ x) else 0)) := by
          apply sumN_congr
          intro x hx
          rw [hU, last_one hS hx (h1 x hx) (hp x hx)]
          by_cases hl : last bp S x = true
          · rw [if_pos hl, if_pos hl]
            have hb : S.testBit x = true := by unfold last at hl; rw [Bool.and_eq_true] at hl; exact hl.1
            have hlt := last_lt hl
            have e := card_less hx hb
            rw [both_less1 T hb, ih _ (by rw [hU]; omega) (S - 2 ^ x) T (by omega) hT rfl, show card n (S - 2 ^ x) + card m T = card n S + card m T - 1 by omega]
            rw [Nat.mul_assoc, Nat.mul_comm (cnt n bp (S - 2 ^ x))]
          · rw [if_neg hl, if_neg hl, Nat.mul_zero]
        rw [this, sumN_mul]
        by_cases hS0 : S = 0
        · rw [if_pos hS0]; subst hS0; rw [cnt_sum_zero, Nat.mul_zero]
        · rw [if_neg hS0, ← cnt_pos hS0, Nat.mul_assoc, Nat.mul_comm (cnt m bq T)]
      have Bm : sumN m (fun y => if last br U (n + y) then cnt (n + m) br (U - 2 ^ (n + y)) else 0) = if T = 0 then 0 else ch (card n S + card m T - 1) (card m T - 1) * (cnt n bp S * cnt m bq T) := by
        have : sumN m (fun y => if last br U (n + y) then cnt (n + m) br (U - 2 ^ (n + y)) else 0) = sumN m (fun y => (ch (card n S + card m T - 1) (card m T - 1) * cnt n bp S) * (if last bq T y then cnt m bq (T - 2 ^ y) else 0)) := by
          apply sumN_congr
          intro y hy
          rw [hU, last_two hS false (h2 y hy), Bool.not_false, Bool.true_or, Bool.and_true]
          by_cases hl : last bq T y = true
          · rw [if_pos hl, if_pos hl]
            have hb : T.testBit y = true := by unfold last at hl; rw [Bool.and_eq_true] at hl; exact hl.1
            have hlt := last_lt hl
            have e := card_less hy hb
            have hlt2 : 2 ^ n * (T - 2 ^ y) + S < 2 ^ n * T + S := Nat.add_lt_add_right (Nat.mul_lt_mul_of_pos_left hlt (Nat.two_pow_pos n)) S
            rw [both_less2 S hb, ih _ (by rw [hU]; exact hlt2) S (T - 2 ^ y) hS (by omega) rfl, show card n S + card m (T - 2 ^ y) = card n S + card m T - 1 by omega, show card m (T - 2 ^ y) = card m T - 1 by omega]
            rw [Nat.mul_assoc]
          · rw [if_neg hl, if_neg hl, Nat.mul_zero]
        rw [this, sumN_mul]
        by_cases hT0 : T = 0
        · rw [if_pos hT0]; subst hT0; rw [cnt_sum_zero, Nat.mul_zero]
        · rw [if_neg hT0, ← cnt_pos hT0, Nat.mul_assoc]
      rw [A, Bm]
      by_cases hS0 : S = 0
      · by_cases hT0 : T = 0
        · exact absurd (by rw [hU, hS0, hT0]; simp) h0
        · rw [if_pos hS0, if_neg hT0, hS0, card_zero, Nat.zero_add, Nat.zero_add, (ch_self _).1, (ch_self _).1]
      · by_cases hT0 : T = 0
        · rw [if_neg hS0, if_pos hT0, hT0, card_zero, Nat.add_zero, ch_zero, ch_zero]
        · have c1 := card_pos hS hS0
          have c2 := card_pos hT hT0
          rw [if_neg hS0, if_neg hT0, ← Nat.add_mul]
          congr 1
          obtain ⟨s, hs⟩ : ∃ s, card n S = s + 1 := ⟨card n S - 1, by omega⟩
          obtain ⟨t', ht⟩ : ∃ t', card m T = t' + 1 := ⟨card m T - 1, by omega⟩
          rw [hs, ht, show s + 1 + (t' + 1) - 1 = s + 1 + t' by omega, show t' + 1 - 1 = t' by omega, show s + 1 + (t' + 1) = (s + 1 + t') + 1 by omega, ch, Nat.add_comm]
theorem cnt_stack (h1 : ∀ x, x < n → ∀ j, (br x).testBit j = (bp x).testBit j) (h2 : ∀ y, y < m → ∀ j, (br (n + y)).testBit j = if j < n then true else (bq y).testBit (j - n)) (hp : ∀ x, x < n → ∀ j, (bp x).testBit j = true → j < n) :
    ∀ U S T, S < 2 ^ n → T < 2 ^ m → U = 2 ^ n * T + S → cnt (n + m) br U = if T = 0 then cnt n bp S else if S = 2 ^ n - 1 then cnt n bp S * cnt m bq T else 0 := by
  intro U
  induction U using Nat.strongRecOn with
  | _ U ih =>
    intro S T hS hT hU
    by_cases h0 : U = 0
    · have hS0 : S = 0 := by omega
      have hT0 : T = 0 := by
        have hp0 := Nat.two_pow_pos n
        have : 2 ^ n * T = 0 := by omega
        rcases Nat.mul_eq_zero.1 this with h | h
        · omega
        · exact h
      subst h0 hS0 hT0
      rw [cnt_zero, cnt_zero, if_pos rfl]
    · rw [cnt_pos h0, sumN_add]
      have Bm : sumN m (fun y => if last br U (n + y) then cnt (n + m) br (U - 2 ^ (n + y)) else 0) = if T = 0 then 0 else if S = 2 ^ n - 1 then cnt n bp S * cnt m bq T else 0 := by
        by_cases hf : S = 2 ^ n - 1
        · have : sumN m (fun y => if last br U (n + y) then cnt (n + m) br (U - 2 ^ (n + y)) else 0) = sumN m (fun y => cnt n bp S * (if last bq T y then cnt m bq (T - 2 ^ y) else 0)) := by
            apply sumN_congr
            intro y hy
            rw [hU, last_two hS true (h2 y hy), decide_eq_true hf, Bool.or_true, Bool.and_true]
            by_cases hl : last bq T y = true
            · rw [if_pos hl, if_pos hl]
              have hb : T.testBit y = true := by unfold last at hl; rw [Bool.and_eq_true] at hl; exact hl.1
              have hlt := last_lt hl
              have hlt2 : 2 ^ n * (T - 2 ^ y) + S < 2 ^ n * T + S := Nat.add_lt_add_right (Nat.mul_lt_mul_of_pos_left hlt (Nat.two_pow_pos n)) S
              rw [both_less2 S hb, ih _ (by rw [hU]; exact hlt2) S (T - 2 ^ y) hS (by omega) rfl, if_pos hf]
              by_cases hz : T - 2 ^ y = 0
              · rw [if_pos hz, hz, cnt_zero, Nat.mul_one]
              · rw [if_neg hz]
            · rw [if_neg hl, if_neg hl, Nat.mul_zero]
          rw [this, sumN_mul]
          by_cases hT0 : T = 0
          · rw [if_pos hT0]; subst hT0; rw [cnt_sum_zero, Nat.mul_zero]
          · rw [if_neg hT0, if_pos hf, ← cnt_pos hT0]
        · rw [if_neg hf, ite_self]
          refine sumN_zero fun y hy => ?_
          rw [hU, last_two hS true (h2 y hy), decide_eq_false hf]
          simp
      rw [Bm]
      by_cases hT0 : T = 0
      · rw [if_pos hT0, if_pos hT0, Nat.add_zero]
        have hS0 : S ≠ 0 := by rintro rfl; exact h0 (by rw [hU, hT0]; simp)
        rw [cnt_pos hS0]
        apply sumN_congr
        intro x hx
        rw [hU, last_one hS hx (h1 x hx) (hp x hx)]
        by_cases hl : last bp S x = true
        · rw [if_pos hl, if_pos hl]
          have hb : S.testBit x = true := by unfold last at hl; rw [Bool.and_eq_true] at hl; exact hl.1
          have hlt := last_lt hl
          rw [both_less1 T hb, ih _ (by rw [hU]; omega) (S - 2 ^ x) T (by omega) hT rfl, if_pos hT0]
        · rw [if_neg hl, if_neg hl]
      · rw [if_neg hT0, if_neg hT0, sumN_zero, Nat.zero_add]
        intro x hx
        rw [hU, last_one hS hx (h1 x hx) (hp x hx)]
        by_cases hl : last bp S x = true
        · rw [if_pos hl]
          have hb : S.testBit x = true := by unfold last at hl; rw [Bool.and_eq_true] at hl; exact hl.1
          have hlt := last_lt hl
          rw [both_less1 T hb, ih _ (by rw [hU]; omega) (S - 2 ^ x) T (by omega) hT rfl, if_neg hT0, if_neg (by omega)]
        · rw [if_neg hl]
end
theorem both_full (n m : Nat) : 2 ^ (n + m) - 1 = 2 ^ n * (2 ^ m - 1) + (2 ^ n - 1) := by
  have h1 := Nat.two_pow_pos n
  have h2 := Nat.two_pow_pos m
  have h3 : 2 ^ n * (2 ^ m - 1) = 2 ^ n * 2 ^ m - 2 ^ n := by rw [Nat.mul_sub, Nat.mul_one]
  have h4 : 2 ^ n * 1 ≤ 2 ^ n * 2 ^ m := Nat.mul_le_mul_left _ h2
  rw [Nat.pow_add, h3]
  omega
end Go.Proofs.YtjdkcafpgebjfaaDoor.M
namespace Go.Proofs.YtjdkcafpgebjfaaDoor.M
open Go.RowKit Go.Proofs.YtjdkcafpgebjfaaDoorW.PrintMore Go.Proofs.YtjdkcafpgebjfaaDoorW.PrintLast Go.Proofs.YtjdkcafpgebjfaaDoorW.PrintWords Go.Proofs.YtjdkcafpgebjfaaDoor.P
theorem sumN_update {n j c : Nat} {f g : Nat → Nat} (hj : j < n) (h : ∀ x, x < n → x ≠ j → g x = f x) (hc : g j = f j + c) : sumN n g = sumN n f + c := by
  induction n with
  | zero => omega
  | succ n ih =>
    rw [sumN, sumN]
    by_cases e : j = n
    · subst e
      rw [hc, sumN_congr (g := f) fun x hx => h x (by omega) (by omega)]
      omega
    · rw [ih (by omega) fun x hx => h x (by omega), h n (by omega) (by omega)]
      omega
def tabY (n : Nat) (b : Nat → Nat) (s j U : Nat) : Nat := (if U = 0 then 1 else 0) + sumN n fun x => if last b U x && decide (U - 2 ^ x < s ∨ U - 2 ^ x = s ∧ x < j) then cnt n b (U - 2 ^ x) else 0
section
variable {n : Nat} {b : Nat → Nat}
theorem tabY_start (U : Nat) : tabY n b 0 0 U = if U = 0 then 1 else 0 := by
  unfold tabY
  rw [sumN_zero, Nat.add_zero]
  intro x _
  rw [if_neg]
  simp
theorem tabY_done (s j U : Nat) (h : U ≤ s) : tabY n b s j U = cnt n b U := by
  unfold tabY
  by_cases h0 : U = 0
  · subst h0
    rw [if_pos rfl, cnt_zero, sumN_zero]
    intro x _
    rw [if_neg]
    simp [last]
  · rw [if_neg h0, Nat.zero_add, cnt_pos h0]
    apply sumN_congr
    intro x _
    by_cases hl : last b U x = true
    · have := last_lt hl
      rw [decide_eq_true (show U - 2 ^ x < s ∨ U - 2 ^ x = s ∧ x < j from .inl (by omega)), Bool.and_true]
    · rw [if_neg hl, if_neg (by simp [hl])]
theorem tabY_le (s j U : Nat) (h : U ≠ 0) : tabY n b s j U ≤ cnt n b U := by
  unfold tabY
  rw [if_neg h, Nat.zero_add, cnt_pos h]
  apply sumN_mono
  intro x _
  by_cases hl : last b U x = true
  · rw [if_pos hl]; split <;> omega
  · rw [if_neg (by simp [hl]), if_neg hl]; exact Nat.le_refl _
theorem tabY_next (s U : Nat) : tabY n b s n U = tabY n b (s + 1) 0 U := by
  unfold tabY
  congr 1
  apply sumN_congr
  intro x hx
  have : (U - 2 ^ x < s ∨ U - 2 ^ x = s ∧ x < n) ↔ (U - 2 ^ x < s + 1 ∨ U - 2 ^ x = s + 1 ∧ x < 0) := by omega
  rw [decide_eq_decide.2 this]
theorem tabY_same (s j U : Nat) (h : ¬ (last b U j = true ∧ U - 2 ^ j = s)) : tabY n b s j U = tabY n b s (j + 1) U := by
  unfold tabY
  congr 1
  apply sumN_congr
  intro x _
  by_cases hl : last b U x = true
  · have : (U - 2 ^ x < s ∨ U - 2 ^ x = s ∧ x < j) ↔ (U - 2 ^ x < s ∨ U - 2 ^ x = s ∧ x < j + 1) := by
      constructor
      · rintro (h | ⟨h, h'⟩)
        · exact .inl h
        · exact .inr ⟨h, by omega⟩
      · rintro (h' | ⟨h', h''⟩)
        · exact .inl h'
        · refine .inr ⟨h', ?_⟩
          have : x ≠ j := by rintro rfl; exact h ⟨hl, h'⟩
          omega
    rw [decide_eq_decide.2 this]
  · rw [if_neg (by simp [hl]), if_neg (by simp [hl])]
theorem tabY_step (s j U : Nat) (hj : j < n) (h : last b U j = true ∧ U - 2 ^ j = s) : tabY n b s (j + 1) U = tabY n b s j U + cnt n b s := by
  unfold tabY
  rw [Nat.add_assoc]
  congr 1
  refine sumN_update hj (fun x _ hx => ?_) ?_
  · have : (U - 2 ^ x < s ∨ U - 2 ^ x = s ∧ x < j + 1) ↔ (U - 2 ^ x < s ∨ U - 2 ^ x = s ∧ x < j) := by omega
    rw [decide_eq_decide.2 this]
  · rw [h.1, decide_eq_true (show U - 2 ^ j < s ∨ U - 2 ^ j = s ∧ j < j + 1 from .inr ⟨h.2, by omega⟩), decide_eq_false (show ¬ (U - 2 ^ j < s ∨ U - 2 ^ j = s ∧ j < j) by omega), h.2]
    simp
theorem last_new {s j : Nat} (h1 : s.testBit j = false) (h2 : diff (b j) s = 0) : last b (s ||| 2 ^ j) j = true ∧ (s ||| 2 ^ j) - 2 ^ j = s := by
  have hb : (s ||| 2 ^ j).testBit j = true := by rw [Nat.testBit_or, Nat.testBit_two_pow]; simp
  have e : (s ||| 2 ^ j) - 2 ^ j = s := by
    apply Nat.eq_of_testBit_eq
    intro i
    rw [testBit_less hb, Nat.testBit_or, Nat.testBit_two_pow]
    by_cases hi : i = j
    · subst hi; simp [h1]
    · have : ¬ j = i := fun e => hi e.symm
      simp [hi, this]
  exact ⟨by unfold last; rw [hb, e, h2]; rfl, e⟩
theorem last_bit {s j U : Nat} (h : last b U j = true ∧ U - 2 ^ j = s) : s.testBit j = false ∧ diff (b j) s = 0 ∧ U = s ||| 2 ^ j := by
  obtain ⟨h, rfl⟩ := h
  unfold last at h
  rw [Bool.and_eq_true, beq_iff_eq] at h
  refine ⟨by rw [testBit_less h.1]; simp, h.2, ?_⟩
  apply Nat.eq_of_testBit_eq
  intro i
  rw [Nat.testBit_or, testBit_less h.1, Nat.testBit_two_pow]
  by_cases hi : i = j
  · subst hi; simp [h.1]
  · have : ¬ j = i := fun e => hi e.symm
    simp [hi, this]
end
def tabL (n : Nat) (b : Nat → Nat) (s j : Nat) : List Int := (List.range (2 ^ n)).map fun U => ((tabY n b s j U : Nat) : Int)
theorem tabL_length (n : Nat) (b : Nat → Nat) (s j : Nat) : (tabL n b s j).length = 2 ^ n := by simp [tabL]
theorem tabL_rd (n : Nat) (b : Nat → Nat) (s j U : Nat) (h : U < 2 ^ n) : rd (tabL n b s j) (U : Int) = ((tabY n b s j U : Nat) : Int) := by rw [rd_nat]; simp [tabL, h]
theorem tabL_no (n : Nat) (b : Nat → Nat) (s j : Nat) (h : ¬ (s.testBit j = false ∧ diff (b j) s = 0)) : tabL n b s j = tabL n b s (j + 1) := by
  unfold tabL
  apply List.map_congr_left
  intro U _
  rw [tabY_same s j U fun hc => h ⟨(last_bit hc).1, (last_bit hc).2.1⟩]
theorem tabL_next (n : Nat) (b : Nat → Nat) (s : Nat) : tabL n b s n = tabL n b (s + 1) 0 := by
  unfold tabL
  apply List.map_congr_left
  intro U _
  rw [tabY_next]
theorem tabL_start (n : Nat) (b : Nat → Nat) : (List.replicate (2 ^ n) (0 : Int)).set 0 1 = tabL n b 0 0 := by
  apply list_ext_getD (by rw [tabL_length]; simp)
  intro i hi
  have hi : i < 2 ^ n := by simpa using hi
  rw [← rd_nat (tabL n b 0 0), tabL_rd n b 0 0 i hi, tabY_start]
  by_cases h : i = 0
  · subst h; simp [hi]
  · have : ¬ 0 = i := fun e => h e.symm
    simp [List.getD, h, hi, this]
theorem or_lt {n s j : Nat} (hs : s < 2 ^ n) (hj : j < n) : s ||| 2 ^ j < 2 ^ n := Nat.or_lt_two_pow hs (Nat.pow_lt_pow_right (by decide) hj)
theorem tabL_yes (n : Nat) (hn : n ≤ 10) (b : Nat → Nat) (s j : Nat) (hs : s < 2 ^ n) (hj : j < n) (h : s.testBit j = false ∧ diff (b j) s = 0) :
    (tabL n b s j).set (s ||| 2 ^ j) (wrap64 (rd (tabL n b s j) ((s ||| 2 ^ j : Nat) : Int) + rd (tabL n b s j) (s : Int))) = tabL n b s (j + 1) := by
  have hV := or_lt hs hj
  have hl := last_new h.1 h.2
  have hne : s ||| 2 ^ j ≠ 0 := fun e => by
    have : (s ||| 2 ^ j).testBit j = true := by rw [Nat.testBit_or, Nat.testBit_two_pow]; simp
    rw [e] at this; simp at this
  have hst := tabY_step (n := n) s j _ hj hl
  have h1 := tabY_le (n := n) (b := b) s (j + 1) (s ||| 2 ^ j) hne
  have h2 := cnt_small hn b _ hV
  rw [tabL_rd _ _ _ _ _ hV, tabL_rd _ _ _ _ _ hs, tabY_done s j s (Nat.le_refl _), wrap64_in _ (by omega) (by omega)]
  apply list_ext_getD (by simp [tabL_length])
  intro i hi
  have hi : i < 2 ^ n := by simpa [tabL_length] using hi
  rw [← rd_nat (tabL n b s (j + 1)), tabL_rd n b s (j + 1) i hi]
  by_cases hV2 : i = s ||| 2 ^ j
  · subst hV2
    rw [List.getD_eq_getElem?_getD, List.getElem?_set_self (by rw [tabL_length]; exact hi), hst]
    simp
  · have e : ((tabL n b s j).set (s ||| 2 ^ j) (((tabY n b s j (s ||| 2 ^ j) : Nat) : Int) + ((cnt n b s : Nat) : Int))).getD i 0 = (tabL n b s j).getD i 0 := by
      simp [List.getD, Ne.symm hV2]
    rw [e, ← rd_nat (tabL n b s j), tabL_rd n b s j i hi, tabY_same s j i fun hc => hV2 (last_bit hc).2.2]
def ext (n : Nat) (l : List Int) : Nat := cnt n (bel n l) (2 ^ n - 1)
theorem pow_10 {n : Nat} (hn : n ≤ 10) : 2 ^ n ≤ 1024 := Nat.pow_le_pow_right (by decide) hn
theorem CountExtensions_ev {n : Nat} {l : List Int} (o : Ord n l) : Ev (fun k => impl_CountExtensions.f k (n : Int) l) (((ext n l : Nat) : Int), true) := by
  have hn := o.le
  have h := o.toRel
  have hm := mir_rel h
  have hp := pow_10 hn
  have hp0 := Nat.two_pow_pos n
  unfold impl_CountExtensions.f
  refine Ev.bind (Ev.to (IsOrder_ev n l (by have := o.len; omega)) (isOrd_iff.2 ⟨n, rfl, o⟩)) ?_
  simp only [if_true]
  refine Ev.bind (mirror_ev h) ?_
  simp only [if_pos (show (0 : Int) ≤ (n : Int) by omega), shl1 n (show n ≤ 62 by omega), if_pos (show (0 : Int) ≤ ((2 ^ n : Nat) : Int) by omega), Int.toNat_natCast, if_pos (show 2 ^ n ≤ 35184372088832 by omega), Option.bind_some, List.length_replicate, if_pos (show (0 : Int) < ((2 ^ n : Nat) : Int) by omega), show (0 : Int).toNat = 0 from rfl]
  rw [tabL_start n (bel n l)]
  refine Ev.up (fun s k => impl_CountExtensions.l0 k (tabL n (bel n l) s 0) ((2 ^ n : Nat) : Int) (s : Int) (n : Int) l (n : Int) (mir n l)) (2 ^ n) ?_ ?_
  · intro s hs next
    have h62 := lt62 hs (show n ≤ 62 by omega)
    refine Ev.step (fun _ => rfl) ?_
    simp only [impl_CountExtensions.l0, if_pos (show (s : Int) < ((2 ^ n : Nat) : Int) by omega)]
    refine Ev.up (fun j k => impl_CountExtensions.l1 k (tabL n (bel n l) s j) (s : Int) ((2 ^ n : Nat) : Int) (s : Int) (n : Int) (j : Int) (n : Int) l (n : Int) (mir n l)) n ?_ ?_
    · intro j hj next
      have hV := or_lt hs hj
      refine Ev.step (fun _ => rfl) ?_
      simp only [impl_CountExtensions.l1, if_pos (show (j : Int) < (n : Int) by omega), if_pos (show (0 : Int) ≤ (j : Int) by omega), and_bit s j h62 (show j ≤ 64 by omega), hm.len, hm.rd, andNot_i64 _ _ (hm.row_62 _) h62, or_set s j h62 (show j ≤ 62 by omega), tabL_length, next64 j n hj (by omega), if_pos (show (0 : Int) ≤ ((s ||| 2 ^ j : Nat) : Int) by omega), if_pos (show ((s ||| 2 ^ j : Nat) : Int) < ((2 ^ n : Nat) : Int) by omega), if_pos (show (0 : Int) ≤ (s : Int) by omega), if_pos (show (s : Int) < ((2 ^ n : Nat) : Int) by omega), Int.toNat_natCast]
      cases hb : s.testBit j with
      | true =>
        simp only [if_true, if_neg (show ¬ (1 : Int) = 0 by decide)]
        rw [tabL_no n (bel n l) s j (by rw [hb]; simp)]
        exact next
      | false =>
        simp only [Bool.false_eq_true, if_false, if_true]
        by_cases hd : diff (bel n l j) s = 0
        · simp only [if_pos (show ((diff (row (mir n l) j) s : Nat) : Int) = 0 by unfold bel at hd; omega)]
          rw [tabL_yes n hn (bel n l) s j hs hj ⟨hb, hd⟩]
          exact next
        · simp only [if_neg (show ¬ ((diff (row (mir n l) j) s : Nat) : Int) = 0 by unfold bel at hd; omega)]
          rw [tabL_no n (bel n l) s j fun hc => hd hc.2]
          exact next
    · refine Ev.step (fun _ => rfl) ?_
      simp only [impl_CountExtensions.l1, if_neg (show ¬ (n : Int) < (n : Int) by omega), next64 s _ hs (by omega)]
      rw [tabL_next]
      exact next
  · refine Ev.step (fun _ => rfl) ?_
    simp only [impl_CountExtensions.l0, if_neg (show ¬ ((2 ^ n : Nat) : Int) < ((2 ^ n : Nat) : Int) by omega), all_eq n l hn, Option.bind_some, if_pos (show (0 : Int) ≤ ((2 ^ n - 1 : Nat) : Int) by omega), tabL_length, if_pos (show ((2 ^ n - 1 : Nat) : Int) < ((2 ^ n : Nat) : Int) by omega), tabL_rd n (bel n l) _ _ (2 ^ n - 1) (by omega)]
    rw [tabY_done _ _ _ (by omega)]
    exact Ev.now _
theorem sCountExtensions_ev {n : Nat} {l : List Int} (o : Ord n l) : Ev (fun k => spec_CountExtensions.f k (n : Int) l) (((ext n l : Nat) : Int), true) := by
  have hn := o.le
  have h := o.toRel
  have hm := mir_rel h
  have hp := pow_10 hn
  have hp0 := Nat.two_pow_pos n
  unfold spec_CountExtensions.f
  refine Ev.bind (Ev.to (orGood_ev n l (by have := o.len; omega)) (isOrd_iff.2 ⟨n, rfl, o⟩)) ?_
  simp only [if_true]
  refine Ev.bind (a := tabL n (bel n l) (2 ^ n) 0) ?_ ?_
  · unfold spec_orCount.f
    simp only [if_pos (show (0 : Int) ≤ (n : Int) by omega), shl1 n (show n ≤ 62 by omega), if_pos (show (0 : Int) ≤ ((2 ^ n : Nat) : Int) by omega), Int.toNat_natCast, if_pos (show 2 ^ n ≤ 35184372088832 by omega), Option.bind_some, List.length_replicate, if_pos (show (0 : Int) < ((2 ^ n : Nat) : Int) by omega), show (0 : Int).toNat = 0 from rfl]
    rw [tabL_start n (bel n l)]
    refine Ev.up (fun s k => spec_orCount.l0 k (tabL n (bel n l) s 0) ((2 ^ n : Nat) : Int) (s : Int) (n : Int) l) (2 ^ n) ?_ ?_
    · intro s hs next
      have h62 := lt62 hs (show n ≤ 62 by omega)
      refine Ev.step (fun _ => rfl) ?_
      simp only [spec_orCount.l0, if_pos (show (s : Int) < ((2 ^ n : Nat) : Int) by omega)]
      refine Ev.up (fun j k => spec_orCount.l1 k (tabL n (bel n l) s j) (s : Int) (j : Int) ((2 ^ n : Nat) : Int) (s : Int) (n : Int) l) n ?_ ?_
      · intro j hj next
        have hV := or_lt hs hj
        refine Ev.step (fun _ => rfl) ?_
        simp only [spec_orCount.l1, if_pos (show (j : Int) < (n : Int) by omega), orHas_eq s j (show j ≤ 64 by omega), Option.bind_some, next64 j n hj (by omega)]
        cases hb : s.testBit j with
        | true =>
          simp only [if_true]
          rw [tabL_no n (bel n l) s j (by rw [hb]; simp)]
          exact next
        | false =>
          simp only [Bool.false_eq_true, if_false]
          refine Ev.bind (orBelow_ev h _ j (by omega)) ?_
          rw [← bel_set l j hj, andNot_i64 (bel n l j) _ (hm.row_62 _) h62]
          by_cases hd : diff (bel n l j) s = 0
          · simp only [if_pos (show ((diff (bel n l j) s : Nat) : Int) = 0 by omega), if_pos (show (0 : Int) ≤ (j : Int) by omega), or_set s j h62 (show j ≤ 62 by omega), tabL_length, if_pos (show (0 : Int) ≤ ((s ||| 2 ^ j : Nat) : Int) by omega), if_pos (show ((s ||| 2 ^ j : Nat) : Int) < ((2 ^ n : Nat) : Int) by omega), if_pos (show (0 : Int) ≤ (s : Int) by omega), if_pos (show (s : Int) < ((2 ^ n : Nat) : Int) by omega), Int.toNat_natCast]
            rw [tabL_yes n hn (bel n l) s j hs hj ⟨hb, hd⟩]
            exact next
          · simp only [if_neg (show ¬ ((diff (bel n l j) s : Nat) : Int) = 0 by omega)]
            rw [tabL_no n (bel n l) s j fun hc => hd hc.2]
            exact next
      · refine Ev.step (fun _ => rfl) ?_
        simp only [spec_orCount.l1, if_neg (show ¬ (n : Int) < (n : Int) by omega), next64 s _ hs (by omega)]
        rw [tabL_next]
        exact next
    · refine Ev.step (fun _ => rfl) ?_
      simp only [spec_orCount.l0, if_neg (show ¬ ((2 ^ n : Nat) : Int) < ((2 ^ n : Nat) : Int) by omega)]
      exact Ev.now _
  · simp only [if_pos (show (0 : Int) ≤ (n : Int) by omega), pow_m1 n hn, if_pos (show (0 : Int) ≤ ((2 ^ n - 1 : Nat) : Int) by omega), tabL_length, if_pos (show ((2 ^ n - 1 : Nat) : Int) < ((2 ^ n : Nat) : Int) by omega), tabL_rd n (bel n l) _ _ (2 ^ n - 1) (show 2 ^ n - 1 < 2 ^ n by omega)]
    rw [tabY_done _ _ _ (by omega)]
    exact Ev.now _
theorem Count_no (n : Int) (l : List Int) (hl : l.length ≤ 140737488355328) (h : isOrd n l = false) : Ev (fun k => impl_CountExtensions.f k n l) (0, false) := by
  unfold impl_CountExtensions.f
  refine Ev.bind (IsOrder_ev n l hl) ?_
  rw [h]
  simp only [Bool.false_eq_true, if_false]
  exact Ev.now _
theorem sCount_no (n : Int) (l : List Int) (hl : l.length ≤ 140737488355328) (h : isOrd n l = false) : Ev (fun k => spec_CountExtensions.f k n l) (0, false) := by
  unfold spec_CountExtensions.f
  refine Ev.bind (orGood_ev n l hl) ?_
  rw [h]
  simp only [Bool.false_eq_true, if_false]
  exact Ev.now _
end Go.Proofs.YtjdkcafpgebjfaaDoor.M
namespace Go.Proofs.YtjdkcafpgebjfaaDoor.M
open Go.RowKit Go.Proofs.YtjdkcafpgebjfaaDoorW.PrintMore Go.Proofs.YtjdkcafpgebjfaaDoorW.PrintLast Go.Proofs.YtjdkcafpgebjfaaDoorW.PrintWords Go.Proofs.YtjdkcafpgebjfaaDoor.P
theorem card_new {n s j : Nat} (hj : j < n) (h : s.testBit j = false) : card n (s ||| 2 ^ j) = card n s + 1 := by
  have h1 := last_new (b := fun _ => 0) h (by simp [diff])
  have hb : (s ||| 2 ^ j).testBit j = true := by rw [Nat.testBit_or, Nat.testBit_two_pow]; simp
  have := card_less hj hb
  rw [h1.2] at this
  omega
theorem card_eq_full {n S : Nat} (hS : S < 2 ^ n) (h : card n S = n) : S = 2 ^ n - 1 := by
  rw [full_bits hS]
  intro j hj
  cases hb : S.testBit j with
  | true => rfl
  | false =>
    have := card_new hj hb
    have := card_le n (S ||| 2 ^ j)
    omega
theorem greedy_take {n : Nat} {l : List Int} {F : List Nat} (g : Greedy n l F) : ∀ i, i ≤ F.length → card n (setN (F.take i)) = i ∧ 1 ≤ cnt n (bel n l) (setN (F.take i)) := by
  intro i
  induction i with
  | zero =>
    intro _
    rw [show setN (F.take 0) = 0 by simp [setN], card_zero, cnt_zero]
    exact ⟨rfl, Nat.le_refl _⟩
  | succ i ih =>
    intro hi
    obtain ⟨h1, h2⟩ := ih (by omega)
    have hf := g.ok i (by omega)
    have hx := g.lt _ (getD_mem F i (by omega))
    unfold free at hf
    simp only [Bool.and_eq_true, Bool.not_eq_true', decide_eq_false_iff_not, beq_iff_eq] at hf
    have hb : (setN (F.take i)).testBit (F.getD i 0) = false := by rw [testBit_setN]; exact decide_eq_false hf.1
    rw [take_next F i (by omega), setN_snoc, card_new hx hb, h1]
    refine ⟨rfl, ?_⟩
    have hl := last_new (b := bel n l) hb hf.2
    have hne : setN (F.take i) ||| 2 ^ F.getD i 0 ≠ 0 := fun e => by
      have : (setN (F.take i) ||| 2 ^ F.getD i 0).testBit (F.getD i 0) = true := by rw [Nat.testBit_or, Nat.testBit_two_pow]; simp
      rw [e] at this; simp at this
    rw [cnt_pos hne]
    refine Nat.le_trans h2 (Nat.le_trans ?_ (sumN_ge n (F.getD i 0) _ hx))
    show _ ≤ if _ then _ else _
    rw [if_pos hl.1, hl.2]
    exact Nat.le_refl _
theorem greedy_full {n : Nat} {l : List Int} {F : List Nat} (g : Greedy n l F) (hF : F.length = n) : setN F = 2 ^ n - 1 ∧ 1 ≤ ext n l := by
  obtain ⟨h1, h2⟩ := greedy_take g F.length (Nat.le_refl _)
  rw [List.take_length] at h1 h2
  have e := card_eq_full (setN_lt F n g.lt) (h1.trans hF)
  rw [e] at h2
  exact ⟨e, h2⟩
theorem greedy_ext {n : Nat} {l : List Int} {F : List Nat} (g : Greedy n l F) (hF : F.length = n) : isName n (ints F) = true ∧ isExt n l F = true := by
  have hs := (greedy_full g hF).1
  constructor
  · unfold isName
    rw [ints_nat, ints_length, hs, decide_eq_true hF]
    simp only [beq_self_eq_true, Bool.and_true, allIn, decide_eq_true_iff]
    intro x hx
    obtain ⟨y, hy, rfl⟩ := List.mem_map.1 hx
    have := g.lt y hy
    omega
  · unfold isExt
    rw [allB_iff]
    intro i hi
    have hf := g.ok i hi
    unfold free at hf
    rw [Bool.and_eq_true] at hf
    exact hf.2
def togP (n : Nat) (l l' : List Int) (st : Bool) (i j : Nat) : Bool := if i < n ∧ j < n then B l i j else if n ≤ i ∧ n ≤ j then B l' (i - n) (j - n) else st && decide (i < n)
def togR (n : Nat) (l : List Int) (m : Nat) (l' : List Int) (st : Bool) : List Int := relL (n + m) (togP n l l' st)
theorem togR_B {n m : Nat} {l l' : List Int} (st : Bool) (h' : Rel m l') (i j : Nat) : B (togR n l m l' st) i j = if i < n then (if j < n then B l i j else st && decide (j < n + m)) else (if j < n then false else B l' (i - n) (j - n)) := by
  unfold togR togP
  rw [relL_B]
  by_cases hi : i < n
  · by_cases hj : j < n
    · simp [hi, hj, show i < n + m by omega, show j < n + m by omega]
    · have : ¬ n ≤ i := by omega
      simp only [hi, hj, this, and_false, false_and, if_false, if_true, decide_true, Bool.and_true, show i < n + m by omega, Bool.true_and]
      cases st <;> simp
  · by_cases hj : j < n
    · have : ¬ n ≤ j := by omega
      simp [hi, hj, this]
    · have h1 : n ≤ i := by omega
      have h2 : n ≤ j := by omega
      simp only [hi, hj, h1, h2, and_self, if_false, if_true]
      cases hb : B l' (i - n) (j - n) with
      | false => simp
      | true =>
        have := h'.B_lt hb
        have := h'.B_lt' hb
        simp; omega
theorem togR_ord {n m : Nat} {l l' : List Int} (st : Bool) (o : Ord n l) (o' : Ord m l') (hnm : n + m ≤ 10) : Ord (n + m) (togR n l m l' st) where
  toRel := relL_rel _ hnm _
  irr := by
    intro i
    rw [togR_B st o'.toRel]
    by_cases hi : i < n
    · rw [if_pos hi, if_pos hi, o.irr]
    · rw [if_neg hi, if_neg hi, o'.irr]
  trans := by
    intro i j k h1 h2
    rw [togR_B st o'.toRel] at h1 h2 ⊢
    by_cases hi : i < n
    · rw [if_pos hi] at h1 ⊢
      by_cases hj : j < n
      · rw [if_pos hj] at h1 h2
        by_cases hk : k < n
        · rw [if_pos hk] at h2 ⊢; exact o.trans _ _ _ h1 h2
        · rw [if_neg hk] at h2 ⊢; exact h2
      · rw [if_neg hj] at h1 h2
        by_cases hk : k < n
        · rw [if_pos hk] at h2; cases h2
        · rw [if_neg hk] at h2 ⊢
          rw [Bool.and_eq_true] at h1 ⊢
          have := o'.toRel.B_lt h2
          exact ⟨h1.1, decide_eq_true (by omega)⟩
    · rw [if_neg hi] at h1 ⊢
      by_cases hj : j < n
      · rw [if_pos hj] at h1; cases h1
      · rw [if_neg hj] at h1 h2
        by_cases hk : k < n
        · rw [if_pos hk] at h2; cases h2
        · rw [if_neg hk] at h2 ⊢; exact o'.trans _ _ _ h1 h2
theorem tog_h1 {n m : Nat} {l l' : List Int} (st : Bool) (o : Ord n l) (o' : Ord m l') (hnm : n + m ≤ 10) (x : Nat) (hx : x < n) (j : Nat) : (bel (n + m) (togR n l m l' st) x).testBit j = (bel n l x).testBit j := by
  rw [testBit_bel (togR_ord st o o' hnm).toRel, testBit_bel o.toRel, togR_B st o'.toRel]
  by_cases hj : j < n
  · rw [if_pos hj, if_pos hx]
  · rw [if_neg hj, if_pos hx]
    cases hb : B l j x with
    | false => rfl
    | true => exact absurd (o.toRel.B_lt' hb) hj
theorem tog_h2 {n m : Nat} {l l' : List Int} (st : Bool) (o : Ord n l) (o' : Ord m l') (hnm : n + m ≤ 10) (y : Nat) (hy : y < m) (j : Nat) : (bel (n + m) (togR n l m l' st) (n + y)).testBit j = if j < n then st else (bel m l' y).testBit (j - n) := by
  rw [testBit_bel (togR_ord st o o' hnm).toRel, testBit_bel o'.toRel, togR_B st o'.toRel]
  by_cases hj : j < n
  · rw [if_pos hj, if_neg (by omega), if_pos hj, decide_eq_true (by omega), Bool.and_true]
  · rw [if_neg hj, if_neg (by omega), if_neg hj, show n + y - n = y by omega]
theorem ext_beside {n m : Nat} {l l' : List Int} (o : Ord n l) (o' : Ord m l') (hnm : n + m ≤ 10) : ext (n + m) (togR n l m l' false) = ch (n + m) m * (ext n l * ext m l') := by
  unfold ext
  have p1 := Nat.two_pow_pos n
  have p2 := Nat.two_pow_pos m
  rw [cnt_beside (tog_h1 false o o' hnm) (tog_h2 false o o' hnm) (fun x _ j hj => o.toRel.B_lt' (by rwa [testBit_bel o.toRel] at hj)) _ (2 ^ n - 1) (2 ^ m - 1) (by omega) (by omega) (both_full n m), card_full, card_full]
theorem ext_stack {n m : Nat} {l l' : List Int} (o : Ord n l) (o' : Ord m l') (hnm : n + m ≤ 10) : ext (n + m) (togR n l m l' true) = ext n l * ext m l' := by
  unfold ext
  have p1 := Nat.two_pow_pos n
  have p2 := Nat.two_pow_pos m
  rw [cnt_stack (tog_h1 true o o' hnm) (tog_h2 true o o' hnm) (fun x _ j hj => o.toRel.B_lt' (by rwa [testBit_bel o.toRel] at hj)) _ (2 ^ n - 1) (2 ^ m - 1) (by omega) (by omega) (both_full n m)]
  by_cases h : 2 ^ m - 1 = 0
  · rw [if_pos h, h, cnt_zero, Nat.mul_one]
  · rw [if_neg h, if_pos rfl]
theorem ext_le {n : Nat} {l : List Int} (o : Ord n l) : ext n l ≤ 10000000000 := cnt_small o.le _ _ (by have := Nat.two_pow_pos n; omega)
def tog (n : Int) (l : List Int) (m : Int) (l' : List Int) (st : Bool) : Int × List Int × Bool := if isOrd n l && (isOrd m l' && decide (n + m ≤ 10)) then (n + m, togR n.toNat l m.toNat l' st, true) else (0, [], false)
theorem together_ev (n : Int) (l : List Int) (m : Int) (l' : List Int) (st : Bool) (hl : l.length ≤ 10) (hl' : l'.length ≤ 10) : Ev (fun k => impl_together.f k n l m l' st) (tog n l m l' st) := by
  unfold impl_together.f tog
  refine Ev.bind (IsOrder_ev n l (by omega)) ?_
  cases h1 : isOrd n l with
  | false => simp only [Bool.false_eq_true, if_false, Bool.false_and]; exact Ev.now _
  | true =>
  simp only [if_true, Bool.true_and]
  refine Ev.bind (IsOrder_ev m l' (by omega)) ?_
  cases h2 : isOrd m l' with
  | false => simp only [Bool.false_eq_true, if_false, Bool.false_and]; exact Ev.now _
  | true =>
  obtain ⟨n, rfl, o⟩ := isOrd_iff.1 h1
  obtain ⟨m, rfl, o'⟩ := isOrd_iff.1 h2
  have hn := o.le
  have hm := o'.le
  have h := o.toRel
  have h' := o'.toRel
  simp only [if_true, Bool.true_and, wrap64_in ((n : Int) + (m : Int)) (by omega) (by omega)]
  by_cases hc : (n : Int) + (m : Int) ≤ 10
  · simp only [if_neg (show ¬ (n : Int) + (m : Int) > 10 by omega), decide_eq_true hc, if_true, Int.toNat_natCast]
    have e : (n : Int) + (m : Int) = ((n + m : Nat) : Int) := by omega
    rw [e]
    refine Ev.bind (relation_ev (n + m) (by omega) (fun k x y => impl_together_1.f k x y (n : Int) l (m : Int) l' st) (togP n l l' st) ?_) (Ev.now _)
    intro i j hi hj
    unfold impl_together_1.f togP
    by_cases hin : i < n
    · simp only [if_pos (show (i : Int) < (n : Int) by omega)]
      refine Ev.step (fun _ => rfl) ?_
      by_cases hjn : j < n
      · simp only [impl_together_1.j0, decide_eq_true (show (j : Int) < (n : Int) by omega), if_true, better_eq h n i j hin (by omega), Option.bind_some, hin, hjn, and_self]
        exact Ev.now _
      · simp only [impl_together_1.j0, decide_eq_false (show ¬ (j : Int) < (n : Int) by omega), Bool.false_eq_true, if_false, if_neg (show ¬ (i : Int) ≥ (n : Int) by omega), hin, hjn, and_false, show ¬ n ≤ i by omega, false_and, decide_eq_true (show (i : Int) < (n : Int) by omega), decide_true, Bool.and_true]
        cases st <;> exact Ev.now _
    · simp only [if_neg (show ¬ (i : Int) < (n : Int) by omega)]
      refine Ev.step (fun _ => rfl) ?_
      by_cases hjn : j < n
      · simp only [impl_together_1.j0, Bool.false_eq_true, if_false, if_pos (show (i : Int) ≥ (n : Int) by omega), if_neg (show ¬ (j : Int) ≥ (n : Int) by omega), hin, hjn, false_and, show ¬ n ≤ j by omega, and_false, decide_eq_false (show ¬ (i : Int) < (n : Int) by omega), decide_false, Bool.and_false, ite_self]
        exact Ev.now _
      · simp only [impl_together_1.j0, Bool.false_eq_true, if_false, if_pos (show (i : Int) ≥ (n : Int) by omega), if_pos (show (j : Int) ≥ (n : Int) by omega), hin, hjn, and_self, show n ≤ i by omega, show n ≤ j by omega, if_true]
        rw [wrap64_in _ (by omega) (by omega), wrap64_in _ (by omega) (by omega), show (i : Int) - (n : Int) = ((i - n : Nat) : Int) by omega, show (j : Int) - (n : Int) = ((j - n : Nat) : Int) by omega, better_eq h' m (i - n) (j - n) (by omega) (by omega)]
        exact Ev.now _
  · simp only [if_pos (show (n : Int) + (m : Int) > 10 by omega), decide_eq_false hc, Bool.false_eq_true, if_false]
    exact Ev.now _
theorem shl_nat (a n : Nat) (hn : n ≤ 62) (h : a * 2 ^ n < 9223372036854775808) : shl .i64 (a : Int) (n : Int) = ((a * 2 ^ n : Nat) : Int) := by
  unfold shl
  rw [Int.toNat_natCast, Nat.min_eq_left (by show n ≤ 64; omega)]
  have := i64_small (a * 2 ^ n) h
  rwa [Int.natCast_mul, Int.natCast_pow] at this ⊢
theorem orTogether_ev {n m : Nat} {l l' : List Int} (o : Ord n l) (o' : Ord m l') (hnm : n + m ≤ 10) (st : Bool) (z : Int) (hz : z = ((if st then (2 ^ m - 1) * 2 ^ n else 0 : Nat) : Int)) :
    Ev (fun k => spec_orTogether.f k (n : Int) l (m : Int) l' z) ((n : Int) + (m : Int), togR n l m l' st) := by
  have h := o.toRel
  have h' := o'.toRel
  have p1 := Nat.two_pow_pos n
  have p2 := Nat.two_pow_pos m
  have hpow : 2 ^ (n + m) ≤ 1024 := pow_10 hnm
  have hpm : 2 ^ m * 2 ^ n = 2 ^ (n + m) := by rw [Nat.pow_add, Nat.mul_comm]
  have hzlt : (if st then (2 ^ m - 1) * 2 ^ n else 0 : Nat) < 2 ^ (n + m) := by
    cases st with
    | false => simp; exact Nat.two_pow_pos _
    | true =>
      have p3 := Nat.two_pow_pos (n + m)
      simp only [if_true]
      rw [Nat.sub_mul, hpm]
      omega
  have hzb : ∀ j, (if st then (2 ^ m - 1) * 2 ^ n else 0 : Nat).testBit j = (st && (decide (n ≤ j) && decide (j < n + m))) := by
    intro j
    cases st with
    | false => simp
    | true =>
      simp only [if_true, Bool.true_and]
      rw [Nat.testBit_mul_two_pow]
      by_cases hj : n ≤ j
      · rw [Nat.testBit_two_pow_sub_one, decide_eq_true hj]
        simp; omega
      · simp [hj]
  have row1 : ∀ i, i < n → Go.bits .or .i64 (rd l (i : Int)) z = ((setOf (n + m) (togP n l l' st i) : Nat) : Int) := by
    intro i hi
    rw [h.rd, hz, or_i64 _ _ (h.row_62 i) (by omega)]
    congr 1
    apply Nat.eq_of_testBit_eq
    intro j
    rw [Nat.testBit_or, hzb, testBit_setOf, show (row l i).testBit j = B l i j from rfl]
    unfold togP
    by_cases hj : j < n
    · simp [hi, hj, show ¬ n ≤ j by omega, show j < n + m by omega]
    · have hb : B l i j = false := by
        cases hb : B l i j with
        | false => rfl
        | true => exact absurd (h.B_lt hb) hj
      have h1 : ¬ n ≤ i := by omega
      have h2 : n ≤ j := by omega
      cases st <;> simp [hb, hi, hj, h1, h2]
  have row2 : ∀ y, y < m → shl .i64 (rd l' (y : Int)) (n : Int) = ((setOf (n + m) (togP n l l' st (n + y)) : Nat) : Int) := by
    intro y hy
    have hr := h'.row_lt y
    have hr2 : row l' y * 2 ^ n < 2 ^ m * 2 ^ n := Nat.mul_lt_mul_of_pos_right hr p1
    rw [h'.rd, shl_nat _ n (by have := o.le; omega) (by omega)]
    congr 1
    apply Nat.eq_of_testBit_eq
    intro j
    rw [Nat.testBit_mul_two_pow, testBit_setOf]
    unfold togP
    by_cases hj : n ≤ j
    · rw [show (row l' y).testBit (j - n) = B l' y (j - n) from rfl]
      have e1 : ¬ (n + y < n ∧ j < n) := by omega
      have e2 : n ≤ n + y ∧ n ≤ j := by omega
      rw [if_neg e1, if_pos e2, show n + y - n = y by omega, decide_eq_true hj, Bool.true_and]
      cases hb : B l' y (j - n) with
      | false => simp
      | true => have := h'.B_lt hb; simp; omega
    · have e1 : ¬ (n + y < n ∧ j < n) := by omega
      have e2 : ¬ (n ≤ n + y ∧ n ≤ j) := by omega
      rw [if_neg e1, if_neg e2, decide_eq_false (show ¬ n + y < n by omega)]
      simp [hj]
  unfold spec_orTogether.f
  rw [wrap64_in ((n : Int) + (m : Int)) (by omega) (by omega), o.len]
  have h0 : Ev (fun k => spec_orTogether.l0 k z l (n : Int) ((0 : Nat) : Int) (n : Int) l (m : Int) l' ((n : Int) + (m : Int)) ((List.range 0).map fun i => ((setOf (n + m) (togP n l l' st i) : Nat) : Int))) ((n : Int) + (m : Int), togR n l m l' st) := by
    refine Ev.up (fun i k => spec_orTogether.l0 k z l (n : Int) (i : Int) (n : Int) l (m : Int) l' ((n : Int) + (m : Int)) ((List.range i).map fun i => ((setOf (n + m) (togP n l l' st i) : Nat) : Int))) n ?_ ?_
    · intro i hi next
      refine Ev.step (fun _ => rfl) ?_
      simp only [spec_orTogether.l0, if_pos (show (i : Int) < (n : Int) by omega), if_pos (show (0 : Int) ≤ (i : Int) by omega), o.len, List.length_map, List.length_range, if_pos (show i < 17592186044416 by omega), row1 i hi, next64 i n hi (by omega)]
      simpa [List.range_succ] using next
    · refine Ev.step (fun _ => rfl) ?_
      simp only [spec_orTogether.l0, if_neg (show ¬ (n : Int) < (n : Int) by omega), o'.len]
      refine Ev.up (fun y k => spec_orTogether.l1 k l' (m : Int) (y : Int) (n : Int) l ((n : Int) + (m : Int)) ((List.range (n + y)).map fun i => ((setOf (n + m) (togP n l l' st i) : Nat) : Int))) m ?_ ?_
      · intro y hy next
        refine Ev.step (fun _ => rfl) ?_
        simp only [spec_orTogether.l1, if_pos (show (y : Int) < (m : Int) by omega), if_pos (show (0 : Int) ≤ (y : Int) by omega), o'.len, if_pos (show (0 : Int) ≤ (n : Int) by omega), List.length_map, List.length_range, if_pos (show n + y < 17592186044416 by omega), row2 y hy, next64 y m hy (by omega)]
        rw [← Nat.add_assoc, List.range_succ] at next
        simpa using next
      · refine Ev.step (fun _ => rfl) ?_
        simp only [spec_orTogether.l1, if_neg (show ¬ (m : Int) < (m : Int) by omega)]
        exact Ev.now _
  exact h0
theorem sBeside_ev (n : Int) (l : List Int) (m : Int) (l' : List Int) (hl : l.length ≤ 10) (hl' : l'.length ≤ 10) : Ev (fun k => spec_BesideOrders.f k n l m l') (tog n l m l' false) := by
  unfold spec_BesideOrders.f tog
  refine Ev.bind (orGood_ev n l (by omega)) ?_
  cases h1 : isOrd n l with
  | false => simp only [Bool.false_eq_true, if_false, Bool.false_and]; exact Ev.now _
  | true =>
  simp only [if_true, Bool.true_and]
  refine Ev.bind (orGood_ev m l' (by omega)) ?_
  cases h2 : isOrd m l' with
  | false => simp only [Bool.false_eq_true, if_false, Bool.false_and]; exact Ev.now _
  | true =>
  obtain ⟨n, rfl, o⟩ := isOrd_iff.1 h1
  obtain ⟨m, rfl, o'⟩ := isOrd_iff.1 h2
  have hn := o.le
  have hm := o'.le
  simp only [if_true, Bool.true_and, wrap64_in ((n : Int) + (m : Int)) (by omega) (by omega)]
  by_cases hc : (n : Int) + (m : Int) ≤ 10
  · simp only [if_neg (show ¬ (n : Int) + (m : Int) > 10 by omega), decide_eq_true hc, if_true, Int.toNat_natCast]
    exact Ev.bind (orTogether_ev o o' (by omega) false 0 rfl) (Ev.now _)
  · simp only [if_pos (show (n : Int) + (m : Int) > 10 by omega), decide_eq_false hc, Bool.false_eq_true, if_false]
    exact Ev.now _
theorem sStack_ev (n : Int) (l : List Int) (m : Int) (l' : List Int) (hl : l.length ≤ 10) (hl' : l'.length ≤ 10) : Ev (fun k => spec_StackOrders.f k n l m l') (tog n l m l' true) := by
  unfold spec_StackOrders.f tog
  refine Ev.bind (orGood_ev n l (by omega)) ?_
  cases h1 : isOrd n l with
  | false => simp only [Bool.false_eq_true, if_false, Bool.false_and]; exact Ev.now _
  | true =>
  simp only [if_true, Bool.true_and]
  refine Ev.bind (orGood_ev m l' (by omega)) ?_
  cases h2 : isOrd m l' with
  | false => simp only [Bool.false_eq_true, if_false, Bool.false_and]; exact Ev.now _
  | true =>
  obtain ⟨n, rfl, o⟩ := isOrd_iff.1 h1
  obtain ⟨m, rfl, o'⟩ := isOrd_iff.1 h2
  have hn := o.le
  have hm := o'.le
  simp only [if_true, Bool.true_and, wrap64_in ((n : Int) + (m : Int)) (by omega) (by omega)]
  by_cases hc : (n : Int) + (m : Int) ≤ 10
  · simp only [if_neg (show ¬ (n : Int) + (m : Int) > 10 by omega), decide_eq_true hc, if_true, Int.toNat_natCast, if_pos (show (0 : Int) ≤ (m : Int) by omega), if_pos (show (0 : Int) ≤ (n : Int) by omega), pow_m1 m hm]
    have hpow : 2 ^ (n + m) ≤ 1024 := pow_10 (by omega)
    have e : (2 ^ m - 1) * 2 ^ n < 9223372036854775808 := by
      rw [Nat.sub_mul, Nat.mul_comm, ← Nat.pow_add]; omega
    refine Ev.bind (orTogether_ev o o' (by omega) true _ ?_) (Ev.now _)
    rw [shl_nat _ n (by omega) e]
    rfl
  · simp only [if_pos (show (n : Int) + (m : Int) > 10 by omega), decide_eq_false hc, Bool.false_eq_true, if_false]
    exact Ev.now _
theorem DrawBeside_tot {l : List Int} (hb : By l) : Tot (fun k => spec_DrawBesideOrders.f k l) (fun r => r.2.1.length ≤ 10 ∧ r.2.2.2.length ≤ 10) := by
  unfold spec_DrawBesideOrders.f
  refine Tot.bind (anyOrder_tot hb 0 0 5 (by omega) (by omega) (by omega) (by omega)) ?_
  rintro ⟨n, z, p, h⟩ ⟨hz, p0, p1⟩
  simp only at hz p0 p1
  refine Tot.bind (anyOrder_tot hb p h 6 (by omega) (by omega) (by omega) (by omega)) ?_
  rintro ⟨n', z', p', h'⟩ ⟨hz', _, _⟩
  exact Tot.now ⟨hz, hz'⟩
end Go.Proofs.YtjdkcafpgebjfaaDoor.M
namespace Go.Proofs.YtjdkcafpgebjfaaDoor.Pure
open Go.RowKit Go.Proofs.YtjdkcafpgebjfaaDoorW.PrintMore Go.Proofs.YtjdkcafpgebjfaaDoorW.PrintLast Go.Proofs.YtjdkcafpgebjfaaDoorW.PrintWords Go.Proofs.YtjdkcafpgebjfaaDoor.P Go.Proofs.YtjdkcafpgebjfaaDoor.M
set_option maxRecDepth 4000
theorem ch_step : ∀ n, n < 11 → ∀ i, i < 11 → n + i < 11 → ch (n + i) i * (n + (i + 1)) = ch (n + (i + 1)) (i + 1) * (i + 1) := by decide +kernel
theorem ch_le : ∀ n, n < 11 → ∀ i, i < 11 → n + i < 11 → ch (n + i) i ≤ 252 ∧ 1 ≤ ch (n + i) i := by decide +kernel
theorem Beside_ev (n : Int) (l : List Int) (m : Int) (l' : List Int) (hl : l.length ≤ 10) (hl' : l'.length ≤ 10) : Ev (fun k => impl_BesideOrders.f k n l m l') (tog n l m l' false) := by
  unfold impl_BesideOrders.f
  exact Ev.bind (together_ev n l m l' false hl hl') (Ev.now _)
theorem Stack_ev (n : Int) (l : List Int) (m : Int) (l' : List Int) (hl : l.length ≤ 10) (hl' : l'.length ≤ 10) : Ev (fun k => impl_StackOrders.f k n l m l') (tog n l m l' true) := by
  unfold impl_StackOrders.f
  exact Ev.bind (together_ev n l m l' true hl hl') (Ev.now _)
theorem tog_len (n : Int) (l : List Int) (m : Int) (l' : List Int) (st : Bool) : (tog n l m l' st).2.1.length ≤ 10 := by
  unfold tog
  split
  · rename_i h
    rw [Bool.and_eq_true, Bool.and_eq_true, decide_eq_true_iff] at h
    obtain ⟨h1, h2, h3⟩ := h
    obtain ⟨n, rfl, o⟩ := isOrd_iff.1 h1
    obtain ⟨m, rfl, o'⟩ := isOrd_iff.1 h2
    simp only [togR, relL_length, Int.toNat_natCast]
    omega
  · simp
theorem tog_flag (n : Int) (l : List Int) (m : Int) (l' : List Int) (st : Bool) : (tog n l m l' st).2.2 = (isOrd n l && (isOrd m l' && decide (n + m ≤ 10))) := by
  unfold tog
  cases isOrd n l && (isOrd m l' && decide (n + m ≤ 10)) <;> rfl
def countOf (n : Int) (l : List Int) : Int × Bool := if isOrd n l then (((ext n.toNat l : Nat) : Int), true) else (0, false)
theorem count_ev (n : Int) (l : List Int) (hl : l.length ≤ 10) : Ev (fun k => impl_CountExtensions.f k n l) (countOf n l) := by
  unfold countOf
  cases h : isOrd n l with
  | false => exact Count_no n l (by omega) h
  | true =>
    obtain ⟨n, rfl, o⟩ := isOrd_iff.1 h
    exact CountExtensions_ev o
theorem sCount_ev (n : Int) (l : List Int) (hl : l.length ≤ 10) : Ev (fun k => spec_CountExtensions.f k n l) (countOf n l) := by
  unfold countOf
  cases h : isOrd n l with
  | false => exact sCount_no n l (by omega) h
  | true =>
    obtain ⟨n, rfl, o⟩ := isOrd_iff.1 h
    exact sCountExtensions_ev o
theorem FnExtensions : P.laws_FnExtensions.Pure := by
  intro l0 l1 _ hl0 hb _ hl1 _
  have hB := by_wf hb
  obtain ⟨⟨n, l, m, l'⟩, hd, hlen, hlen'⟩ := DrawBeside_tot hB
  simp only at hlen hlen'
  refine Ev.rounds (g := fun k => laws_FnExtensions.f k l0 l1) ?_
  unfold laws_FnExtensions.f
  obtain ⟨b, hbig⟩ : ∃ b, laws_big.f l0 l1 = some b := by
    unfold laws_big.f
    split
    · exact ⟨_, rfl⟩
    · exact ⟨_, rfl⟩
  rw [hbig]
  simp only [Option.bind_some]
  cases b with
  | true => simp only [if_true]; exact Ev.now _
  | false =>
  simp only [Bool.false_eq_true, if_false]
  have t1 := tog_len n l m l' false
  have t2 := tog_len n l m l' true
  refine Ev.bind hd ?_
  refine Ev.bind (Beside_ev n l m l' hlen hlen') ?_
  refine Ev.bind (sBeside_ev n l m l' hlen hlen') ?_
  refine Ev.bind (Stack_ev n l m l' hlen hlen') ?_
  refine Ev.bind (sStack_ev n l m l' hlen hlen') ?_
  simp only [bne_self_eq_false, Bool.false_eq_true, if_false]
  refine Ev.bind (Ev.to (pSameOrder_ev _ _ _ _ (by omega)) (r' := true) (by simp)) ?_
  simp only [if_true]
  refine Ev.bind (Ev.to (pSameOrder_ev _ _ _ _ (by omega)) (r' := true) (by simp)) ?_
  simp only [if_true, tog_flag, bne_self_eq_false]
  refine Ev.step (fun _ => rfl) ?_
  simp only [laws_FnExtensions.j0, Bool.false_eq_true, if_false]
  refine Ev.bind (count_ev n l hlen) ?_
  refine Ev.bind (count_ev m l' hlen') ?_
  refine Ev.bind (sCount_ev n l hlen) ?_
  simp only [bne_self_eq_false, Bool.false_eq_true, if_false]
  refine Ev.step (fun _ => rfl) ?_
  simp only [laws_FnExtensions.j1, Bool.false_eq_true, if_false]
  have last : Ev (fun k => laws_FnExtensions.j2 k (isOrd n l && (isOrd m l' && decide (n + m ≤ 10))) (countOf n l).1 (countOf n l).2 (countOf m l').1 (countOf m l').2 n l m l' (tog n l m l' false).1 (tog n l m l' false).2.1 (tog n l m l' true).1 (tog n l m l' true).2.1) true := by
    refine Ev.step (fun _ => rfl) ?_
    simp only [laws_FnExtensions.j2]
    cases hc : (isOrd n l && (isOrd m l' && decide (n + m ≤ 10))) with
    | false => simp only [Bool.false_eq_true, if_false]; exact Ev.now _
    | true =>
    have htog : ∀ st, tog n l m l' st = (n + m, togR n.toNat l m.toNat l' st, true) := by intro st; unfold tog; rw [hc]; rfl
    rw [Bool.and_eq_true, Bool.and_eq_true, decide_eq_true_iff] at hc
    obtain ⟨h1, h2, h3⟩ := hc
    obtain ⟨n, rfl, o⟩ := isOrd_iff.1 h1
    obtain ⟨m, rfl, o'⟩ := isOrd_iff.1 h2
    have hnm : n + m ≤ 10 := by omega
    have c1 : countOf (n : Int) l = (((ext n l : Nat) : Int), true) := by unfold countOf; rw [h1]; rfl
    have c2 : countOf (m : Int) l' = (((ext m l' : Nat) : Int), true) := by unfold countOf; rw [h2]; rfl
    have e : (n : Int) + (m : Int) = ((n + m : Nat) : Int) := by omega
    rw [htog false, htog true, c1, c2, e]
    simp only [if_true, Int.toNat_natCast]
    have hn1 : n < 11 := by omega
    have h0 : Ev (fun k => laws_FnExtensions.l0 k ((ext n l : Nat) : Int) true ((ext m l' : Nat) : Int) true ((ch (n + 0) 0 : Nat) : Int) ((0 + 1 : Nat) : Int) (n : Int) l (m : Int) l' ((n + m : Nat) : Int) (togR n l m l' false) ((n + m : Nat) : Int) (togR n l m l' true)) true := by
      refine Ev.up (fun i k => laws_FnExtensions.l0 k ((ext n l : Nat) : Int) true ((ext m l' : Nat) : Int) true ((ch (n + i) i : Nat) : Int) ((i + 1 : Nat) : Int) (n : Int) l (m : Int) l' ((n + m : Nat) : Int) (togR n l m l' false) ((n + m : Nat) : Int) (togR n l m l' true)) m ?_ ?_
      · intro i hi next
        refine Ev.step (fun _ => rfl) ?_
        have hs := ch_step n hn1 i (by omega) (by omega)
        have hle := (ch_le n hn1 i (by omega) (by omega)).1
        have ew : wrap64 (Int.tdiv (wrap64 (((ch (n + i) i : Nat) : Int) * wrap64 ((n : Int) + ((i + 1 : Nat) : Int)))) ((i + 1 : Nat) : Int)) = ((ch (n + (i + 1)) (i + 1) : Nat) : Int) := by
          rw [wrap64_in ((n : Int) + _) (by omega) (by omega), show (n : Int) + ((i + 1 : Nat) : Int) = ((n + (i + 1) : Nat) : Int) by omega, ← Int.natCast_mul, hs]
          have hle2 := (ch_le n hn1 (i + 1) (by omega) (by omega)).1
          have hm2 : ch (n + (i + 1)) (i + 1) * (i + 1) ≤ 252 * 11 := Nat.mul_le_mul hle2 (by omega)
          rw [wrap64_in ((ch (n + (i + 1)) (i + 1) * (i + 1) : Nat) : Int) (by omega) (by omega), Int.natCast_mul, Int.mul_tdiv_cancel _ (by omega), wrap64_in _ (by omega) (by omega)]
        simp only [laws_FnExtensions.l0, if_pos (show ((i + 1 : Nat) : Int) ≤ (m : Int) by omega), if_neg (show ¬ ((i + 1 : Nat) : Int) = 0 by omega), ew]
        rw [show wrap64 (((i + 1 : Nat) : Int) + 1) = ((i + 1 + 1 : Nat) : Int) from by rw [wrap64_in _ (by omega) (by omega)]; omega]
        exact next
      · refine Ev.step (fun _ => rfl) ?_
        have ob := togR_ord false o o' hnm
        have os := togR_ord true o o' hnm
        simp only [laws_FnExtensions.l0, if_neg (show ¬ ((m + 1 : Nat) : Int) ≤ (m : Int) by omega)]
        refine Ev.bind (CountExtensions_ev ob) ?_
        refine Ev.bind (CountExtensions_ev os) ?_
        have hA := ext_le o
        have hBm := ext_le o'
        have hle := (ch_le n hn1 m (by omega) (by omega)).1
        have hX := ext_le ob
        have hY := ext_le os
        rw [ext_beside o o' hnm] at hX ⊢
        rw [ext_stack o o' hnm] at hY ⊢
        have hZ : ch (n + m) m * ext n l ≤ 252 * 10000000000 := Nat.mul_le_mul hle hA
        simp only [if_true]
        rw [← Int.natCast_mul, wrap64_in (((ch (n + m) m * ext n l : Nat)) : Int) (by omega) (by omega), ← Int.natCast_mul, ← Int.natCast_mul, Nat.mul_assoc, wrap64_in _ (by omega) (by omega), wrap64_in _ (by omega) (by omega)]
        simp only [if_true]
        exact Ev.to (Ev.now _) (by simp)
    rw [show ch (n + 0) 0 = 1 from ch_zero _] at h0
    exact h0
  cases h1 : isOrd n l with
  | false =>
    have c1 : countOf n l = (0, false) := by unfold countOf; rw [h1]; rfl
    rw [h1, c1] at last
    simp only [c1, Bool.false_eq_true, if_false]
    exact last
  | true =>
    have c2 : (countOf n l).2 = true := by unfold countOf; rw [h1]; rfl
    rw [h1] at last
    simp only [c2, if_true]
    obtain ⟨n, rfl, o⟩ := isOrd_iff.1 h1
    obtain ⟨⟨F', b⟩, hf, hb1, F, hb2, g, hF⟩ := FirstExtension_tot o
    simp only at hb1 hb2
    subst hb1 hb2
    refine Ev.bind hf ?_
    have hn := o.le
    obtain ⟨g1, g2⟩ := greedy_ext g hF
    refine Ev.bind (Ev.to (IsExtension_ev (n : Int) l (ints F) (by omega) (by rw [ints_length]; omega)) (r' := (true, true)) (by rw [h1, Int.toNat_natCast, g1, ints_nat, g2]; rfl)) ?_
    have c1 : (countOf (n : Int) l).1 = ((ext n l : Nat) : Int) := by unfold countOf; rw [h1]; rfl
    have := (greedy_full g hF).2
    simp only [if_true, if_neg (show ¬ (countOf (n : Int) l).1 < 1 by rw [c1]; omega)]
    rw [c2] at last
    exact last
end Go.Proofs.YtjdkcafpgebjfaaDoor.Pure
namespace Go.Proofs.YtjdkcafpgebjfaaDoorW.PrintWords
open Go.ChangeShapes Go.WideShapes
theorem sized_ints {H : Type} {enc : TypeId × Value → H} {P : Program} {W : World} {base : Nat} {spare : Nat → Bool} {held : Bool} {t e : TypeId} {k : IntKind} {a : Option Addr} {len cap : Nat} {d : DataW H} {ps : List MemPlace} {ts : List TypeId} {ds : List (DataW H)} {j : Nat}
    (hsz : (DataW.weightsEach P ts ds).all (· ≤ reachBytes) = true) (ht : ts[j]? = some t) (hd : ds[j]? = some d) (hu : P.underlying t = some (.slice e)) (he : P.underlying e = some (.int k)) (hc : P.cellsOf e = 1) {B : Nat} (hB : P.bytesOf e = B)
    (h : DataW.Trod enc P W base spare held t (.slice a len cap) d ps) : len * B ≤ 140737488351232 := by
  obtain ⟨fuel, hf⟩ := h
  rcases open_ints hu he hc hf with ⟨hcs, _⟩ | ⟨x, l, c, zs, hcs, _, hl, _, hz, hx, _, _⟩
  · simp [Value.cells] at hcs
    obtain ⟨rfl, rfl, rfl⟩ := hcs
    simp
  · simp [Value.cells] at hcs
    obtain ⟨rfl, rfl, rfl⟩ := hcs
    obtain ⟨hx, _⟩ := Prod.mk.inj hx
    subst hx
    have z := sized_slice hsz ht hd hu
    rw [hB] at z
    have hl2 : len ≤ zs.length := by
      rw [hz]
      split
      · exact hl
      · exact Nat.le_refl _
    have h1 : (lits (H := H) k (zs.take len)).length + (lits (H := H) k (zs.drop len)).length = zs.length := by
      simp [lits]
      omega
    rw [h1] at z
    exact Nat.le_trans (Nat.mul_le_mul_right _ hl2) z
end Go.Proofs.YtjdkcafpgebjfaaDoorW.PrintWords
namespace Go.Proofs.YtjdkcafpgebjfaaDoor.fnExtensions
open Go.ChangeShapes Go.WideShapes Go.ChangeAt Go.RowKit
open Go.ChangeMaps (open_string shut_string)
open Go.Proofs.YtjdkcafpgebjfaaDoorW
set_option linter.unusedVariables false
theorem own : ownKnob Tryd.prog.godebug = none := by kernel_rfl
theorem laidOut : laidOutB Tryd.prog = true := by kernel_rfl
def IsRow (k : IntKind) (w : World) (a : Option Addr) (len cap : Nat) (zs : List Int) : Prop :=
  (a = none ∧ len = 0 ∧ cap = 0 ∧ zs = []) ∨
  ∃ x, a = some x ∧ len ≤ cap ∧ cap ≤ maxLen ∧ zs.length = cap ∧ (∀ i, i < zs.length → w.cell? (x.add i) = some (.int k (zs.getD i 0))) ∧ ∀ n ∈ zs, (Lit.int k n).wf = true
theorem gT : Tryd.prog.globalNamed "math/bits.deBruijn64tab" = some 1 := by kernel_rfl
theorem tT : (Tryd.prog.globals[1]?).map (·.type) = some 124 := by kernel_rfl
theorem cT : Tryd.prog.cellsOf 124 = 64 := by kernel_rfl
theorem cE : Tryd.prog.cellsOf 5 = 1 := by kernel_rfl
def tab64 : List Int := Lib.deBruijn64tab.map fun (z : Nat) => (z : Int)
theorem tab64_at : ∀ j, j < 64 → tab64.getD j 0 = ((Lib.deBruijn64tab.getD j 0 : Nat) : Int) := by decide +kernel
theorem table {W : World} (h : laidMetH Tryd.prog Rows.fnExtensionsRow.laid W) : P.TabOK W := by
  rw [MakeChecks.laidMetH_plain _ _ _ (by kernel_rfl)] at h
  have h1 : laidMet Tryd.prog [("math/bits.deBruijn32tab", Rows.laid_math_bits_deBruijn32tab), ("math/bits.deBruijn64tab", Lib.tabData .u8 tab64)] W := h
  have h0 := laidMet.tail (h1)
  have ht := Lib.tabIs_of_head gT tT Tryd.underlying124 Tryd.underlying5 cE cT h0
  intro j hj
  rw [ht.cell gT j (by exact hj), tab64_at j hj]
theorem door_met (os : Os) (args : Array Value) : laidMetH Tryd.prog Rows.fnExtensionsRow.laid ((World.doorLaid Tryd.prog 400 os).forCall (fun _ _ => 0) ⟨#[], args, []⟩).memory :=
  laidMetH_of_parts3 (fuel := 8) (laidMet_of_run' 8 (by kernel_rfl) (by kernel_rfl)) (by kernel_rfl) (by kernel_rfl)
set_option maxRecDepth 100000 in
theorem lifted (os : Os) (started : os.Started) (H : Type) (enc : TypeId × Value → H) :
    ReturnsInHanded {} Tryd.checked os 7 .any (fun w args => (Rows.fnExtensionsSpec.pre enc Tryd.prog Tryd.f7 [] false w args ∧ laidMetH Tryd.prog Rows.fnExtensionsRow.laid w) ∧ sizedMet enc Tryd.prog Tryd.f7 (OpenSpec.ofChange Rows.fnExtensionsSpec) false w args)
      (Rows.fnExtensionsSpec.post enc Tryd.prog Tryd.f7 false true false false) := by
  refine returnsInHanded_of_change_and (C := Tryd.checked) (X := fun w _ => laidMetH Tryd.prog Rows.fnExtensionsRow.laid w) (fun _ _ _ hh h => h.of_heap hh) own started (by kernel_rfl) Tryd.func7
    (ChangeSpec.witness_shaped (enc := enc) (C := Tryd.checked) (os := os) (X := fun w _ => laidMetH Tryd.prog Rows.fnExtensionsRow.laid w) false (World.doorLaid Tryd.prog 400 os) #[.slice none 0 0, .slice none 0 0] 8 rfl (World.shaped_of_RefB (by kernel_rfl) (by kernel_rfl)) (by kernel_rfl) (by kernel_rfl) (by kernel_rfl) (door_met os _)) ?_
  intro W base args ds gs before hval0 hW hcnd hsz0 hL _
  have hsz : (DataW.weightsEach Tryd.prog (Tryd.f7.params.toList ++ Rows.fnExtensionsSpec.plain.varTypes Tryd.prog) (ds ++ gs)).all (· ≤ reachBytes) = true := hsz0
  have hval : ∀ (j : Nat) t v, Tryd.f7.params[j]? = some t → args[j]? = some v → Value.okWide Tryd.prog W .any base t v := hval0
  have hW' := hW
  obtain ⟨p, q, hA0, hV, rfl, hfz, hnd⟩ := hW
  have hA : DataW.TrodAll enc Tryd.prog W 0 (fun _ => true) true Tryd.f7.params.toList args.toList ds p := hA0
  rw [Tryd.params7] at hA hval hsz
  obtain ⟨v0, vs0, d0, ds0, p0, q0, hargs, rfl, rfl, h0, r0⟩ := trodAll_cons hA
  obtain ⟨v1, vs1, d1, ds1, p1, q1, rfl, rfl, rfl, h1, r1⟩ := trodAll_cons r0
  obtain ⟨rfl, rfl, rfl⟩ := trodAll_nil r1
  obtain rfl : args = #[v0, v1] := by cases args; simp_all
  obtain ⟨rfl, rfl⟩ := trodVars_none hV
  obtain ⟨a0, len0, cap0, rfl⟩ := okWide_slice Tryd.underlying33 (hval 0 33 v0 rfl rfl)
  have k0 := h0
  have lt0 : ∀ x ∈ p0, x.block < W.heap.size := by obtain ⟨m, hm⟩ := k0; exact DataW.trod_lt m _ _ _ hm
  obtain ⟨z0, w0⟩ : ∃ zs, IsRow .u8 W a0 len0 cap0 zs := by
    obtain ⟨fuel, hf⟩ := h0
    rcases open_ints Tryd.underlying33 Tryd.underlying5 (by kernel_rfl) hf with ⟨hcs, _⟩ | ⟨x, l, c, zs, hcs, _, hl, hm, hz, _, hcell, hwz⟩
    · simp [Value.cells] at hcs
      obtain ⟨rfl, rfl, rfl⟩ := hcs
      exact ⟨[], .inl ⟨rfl, rfl, rfl, rfl⟩⟩
    · simp [Value.cells] at hcs
      obtain ⟨rfl, rfl, rfl⟩ := hcs
      exact ⟨zs, .inr ⟨_, rfl, hl, hm, by simpa using hz, hcell, hwz⟩⟩
  have y0 : len0 * 1 ≤ 140737488351232 := PrintWords.sized_ints hsz (j := 0) (t := 33) rfl rfl Tryd.underlying33 Tryd.underlying5 (by kernel_rfl) (by kernel_rfl) h0
  obtain ⟨a1, len1, cap1, rfl⟩ := okWide_slice Tryd.underlying33 (hval 1 33 v1 rfl rfl)
  have k1 := h1
  have lt1 : ∀ x ∈ p1, x.block < W.heap.size := by obtain ⟨m, hm⟩ := k1; exact DataW.trod_lt m _ _ _ hm
  obtain ⟨z1, w1⟩ : ∃ zs, IsRow .u8 W a1 len1 cap1 zs := by
    obtain ⟨fuel, hf⟩ := h1
    rcases open_ints Tryd.underlying33 Tryd.underlying5 (by kernel_rfl) hf with ⟨hcs, _⟩ | ⟨x, l, c, zs, hcs, _, hl, hm, hz, _, hcell, hwz⟩
    · simp [Value.cells] at hcs
      obtain ⟨rfl, rfl, rfl⟩ := hcs
      exact ⟨[], .inl ⟨rfl, rfl, rfl, rfl⟩⟩
    · simp [Value.cells] at hcs
      obtain ⟨rfl, rfl, rfl⟩ := hcs
      exact ⟨zs, .inr ⟨_, rfl, hl, hm, by simpa using hz, hcell, hwz⟩⟩
  have y1 : len1 * 1 ≤ 140737488351232 := PrintWords.sized_ints hsz (j := 1) (t := 33) rfl rfl Tryd.underlying33 Tryd.underlying5 (by kernel_rfl) (by kernel_rfl) h1
  clear hA0 hval0 hsz0 hsz
  refine (P.laws_FnExtensions.walk Pure.FnExtensions a0 len0 cap0 z0 a1 len1 cap1 z1 W w0 y0 w1 y1 (table hL)).mono fun e W' ⟨he, bel⟩ => ?_
  subst he
  exact ⟨_, rfl, _, _, _, [], _, [], hW', trodAll_mk1 (shut_bool Tryd.underlying4 _), (trodAll_cons_mk (Below.trod laidOut (by kernel_rfl) (of_decide_eq_true (by kernel_rfl)) k0 bel lt0) (trodAll_cons_mk (Below.trod laidOut (by kernel_rfl) (of_decide_eq_true (by kernel_rfl)) k1 bel lt1) trodAll_mk0)), rfl, bel.frame _, fun h => by cases h⟩
theorem over : Rows.fnExtensionsRow.holds Tryd.pinned (OpenSpec.ofChange Rows.fnExtensionsSpec) :=
  OpenClaim.holds_of_wide 7 Tryd.f7 rfl rfl rfl rfl rfl rfl rfl ⟨rfl, rfl, rfl, rfl, rfl⟩ rfl rfl rfl rfl rfl (by kernel_rfl) Tryd.func7 (by kernel_rfl)
    (of_decide_eq_true (by kernel_rfl)) (by unfold Func.isWrapper; first | (rw [if_pos (by decide +kernel)]; kernel_rfl) | (rw [if_neg (by decide +kernel)]; exact ⟨rfl, rfl⟩))
    (fun os started H enc _ => lifted os started H enc)
theorem proved : Rows.FnExtensionsCardSaid :=
  Claim7.holds_tied_plain_at .later [] [.data, .data] true (true, "5d58891a245336e29b7e5b518917121b9d138b4959fb48b1af33e9c76743e3aa") false
    over (fun _ h => by cases h) (by kernel_rfl) (fun _ h => by cases h) fnExtensions_row_tie rfl ⟨rfl, rfl⟩ (by kernel_rfl) rfl
    (fun f fn hf hfn => by
      obtain rfl : f = 7 := Option.some.inj ((show Tryd.prog.funcNamed "loop.example/g01106/laws.FnExtensions" = some 7 by kernel_rfl).symm.trans hf) |>.symm
      obtain rfl : fn = Tryd.f7 := (Option.some.inj (Tryd.func7.symm.trans hfn)).symm
      exact ⟨by kernel_rfl, fun j t ht => by
        rw [Tryd.params7] at ht
        have hm : t ∈ [33] := by have hq := Array.mem_of_getElem? ht; simp at hq; simp [hq]
        have hall : ([33].all fun u => !Tryd.prog.wantsStandIn u) = true := by kernel_rfl
        exact (show Tryd.prog.wantsStandIn t = false by simpa using List.all_eq_true.1 hall t hm)⟩)
    (by kernel_rfl)
end Go.Proofs.YtjdkcafpgebjfaaDoor.fnExtensions
namespace Go.Proofs.YtjdkcafpgebjfaaDoor
theorem fnExtensions_holds : Rows.FnExtensionsCardSaid := fnExtensions.proved
end Go.Proofs.YtjdkcafpgebjfaaDoor
