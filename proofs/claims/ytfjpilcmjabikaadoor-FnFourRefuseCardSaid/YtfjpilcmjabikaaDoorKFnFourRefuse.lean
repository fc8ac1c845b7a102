/- The law FnFourRefuse holds at every input. Written by wip/pack.py: the kit's printed words that are used, the functions' walks as wip/gen.py prints them, and hand proofs. -/
import Derived.Test.YtfjpilcmjabikaaDoorKFnFourRefuse5
import Derived.Lib.SlicesCompact
import Derived.SizedLaws
import Derived.ChangeSlices
import Derived.Test.YtfjpilcmjabikaaDoorRows
import Derived.Test.YtfjpilcmjabikaaDoorCards
import Derived.Test.YtfjpilcmjabikaaDoorTie
import Derived.WalkKit
import Derived.ProofKit
import Derived.OpenShut
import Derived.ShutString
import Derived.ChangeOld
import Derived.Below
import Derived.LaidMore
import Derived.Stop.Joined
import Derived.Stop.LaidErr
import Derived.Lib.LaidTab
import Derived.Lib.SmallJoins
import Derived.SevenTiedAt
namespace Go.Proofs.YtfjpilcmjabikaaDoor.M
open Go.RowKit Go.Proofs.YtfjpilcmjabikaaDoorW.PrintMore Go.Proofs.YtfjpilcmjabikaaDoorW.PrintLast Go.Proofs.YtfjpilcmjabikaaDoorW.PrintWords Go.Proofs.YtfjpilcmjabikaaDoor.P
def Tot {α : Type} (g : Nat → Option α) (Q : α → Prop) : Prop := ∃ r, Ev g r ∧ Q r
section
variable {α β : Type} {Q : α → Prop} {R : β → Prop}
theorem Tot.now {r : α} (h : Q r) : Tot (fun _ => some r) Q := ⟨r, Ev.now r, h⟩
theorem Tot.step {g f : Nat → Option α} (h : ∀ k, g (k + 1) = f k) (k : Tot f Q) : Tot g Q := by obtain ⟨r, k, hq⟩ := k; exact ⟨r, Ev.step h k, hq⟩
theorem Tot.bind {g : Nat → Option α} {f : Nat → α → Option β} (h : Tot g Q) (k : ∀ a, Q a → Tot (fun n => f n a) R) : Tot (fun n => (g n).bind (f n)) R := by
  obtain ⟨a, h, hq⟩ := h
  obtain ⟨r, k, hr⟩ := k a hq
  exact ⟨r, Ev.bind h k, hr⟩
theorem Tot.ebind {g : Nat → Option α} {f : Nat → α → Option β} {a : α} (h : Ev g a) (k : Tot (fun n => f n a) R) : Tot (fun n => (g n).bind (f n)) R := by
  obtain ⟨r, k, hr⟩ := k
  exact ⟨r, Ev.bind h k, hr⟩
theorem Tot.obind {x : Option α} {f : Nat → α → Option β} (h : ∃ r, x = some r ∧ Q r) (k : ∀ a, Q a → Tot (fun n => f n a) R) : Tot (fun n => x.bind (f n)) R := by
  obtain ⟨a, rfl, hq⟩ := h
  exact k a hq
theorem Tot.ite {c : Prop} [Decidable c] {f g : Nat → Option α} (h1 : c → Tot f Q) (h2 : ¬ c → Tot g Q) : Tot (fun k => if c then f k else g k) Q := by
  by_cases h : c
  · simp only [if_pos h]; exact h1 h
  · simp only [if_neg h]; exact h2 h
theorem Tot.up {S : Type} (G : Nat → S → Nat → Option α) (n : Nat) (Inv : Nat → S → Prop)
    (step : ∀ i s, i < n → Inv i s → (∀ s', Inv (i + 1) s' → Tot (G (i + 1) s') Q) → Tot (G i s) Q) (stop : ∀ s, Inv n s → Tot (G n s) Q) (i : Nat) (hi : i ≤ n) (s : S) (hs : Inv i s) : Tot (G i s) Q := by
  obtain ⟨d, rfl⟩ : ∃ d, n = i + d := ⟨n - i, by omega⟩
  clear hi
  induction d generalizing i s with
  | zero => exact stop s hs
  | succ d ih =>
    refine step i s (by omega) hs fun s' h' => ?_
    exact ih (i + 1) s' h' (fun a b ha => step a b (by omega)) (by rw [show i + 1 + d = i + (d + 1) by omega]; exact stop)
end
def By (l : List Int) : Prop := ∀ x ∈ l, 0 ≤ x ∧ x ≤ 255
theorem by_wf {l : List Int} (h : ∀ x ∈ l, (Lit.int .u8 x).wf = true) : By l := by
  intro x hx
  have := h x hx
  simp [Lit.wf, IntKind.min, IntKind.max, IntKind.signed, IntKind.bits] at this
  omega
theorem By.rd {l : List Int} (h : By l) (i : Nat) : 0 ≤ rd l (i : Int) ∧ rd l (i : Int) ≤ 255 := by
  rw [rd_nat]
  by_cases hi : i < l.length
  · have := h l[i] (List.getElem_mem hi)
    simpa [hi] using this
  · simp [Nat.not_lt.1 hi]
theorem and_255 (x : Int) : 0 ≤ Go.bits .and .u64 x 255 ∧ Go.bits .and .u64 x 255 ≤ 255 := by
  have e : Go.bits .and .u64 x 255 = IntKind.u64.wrap (((BitVec.ofInt 64 x).toNat &&& 255 : Nat) : Int) := by
    show IntKind.u64.wrap ((BitVec.ofInt 64 x &&& BitVec.ofInt 64 255).toNat : Int) = _
    rw [BitVec.toNat_and]; rfl
  have h : (BitVec.ofInt 64 x).toNat &&& 255 ≤ 255 := Nat.and_le_right
  rw [e, u64_small _ (by omega)]
  omega
theorem wrap64_in (x : Int) (h0 : -9223372036854775808 ≤ x) (h1 : x ≤ 9223372036854775807) : wrap64 x = x := by unfold wrap64; omega
theorem next_ok {l : List Int} (hb : By l) (p h : Int) (hp : 0 ≤ p) (hp2 : p ≤ 1000000) : ∃ r, spec_l1Cur_next.f l p h = some r ∧ 0 ≤ r.1 ∧ r.1 ≤ 255 ∧ r.2.1 = p + 1 := by
  unfold spec_l1Cur_next.f
  obtain ⟨i, rfl⟩ := Int.eq_ofNat_of_zero_le hp
  have h1 := hb.rd i
  rw [wrap64_in ((i : Int) + 1) (by omega) (by omega)]
  have ha := fun x => and_255 x
  by_cases h0 : (i : Int) < (l.length : Int)
  · rw [if_pos h0, if_pos hp, if_pos (show (i : Int) + 1 ≤ (l.length : Int) by omega)]
    exact ⟨_, rfl, by rw [wrap64_in _ (by omega) (by omega)]; omega, by rw [wrap64_in _ (by omega) (by omega)]; omega, rfl⟩
  · rw [if_neg h0, if_neg (show ¬ (i : Int) + 1 ≤ (l.length : Int) by omega)]
    refine ⟨_, rfl, ?_, ?_, rfl⟩
    · have := ha ((IntKind.u64.wrap (IntKind.u64.wrap (IntKind.u64.wrap (h * 6364136223846793005)) + 1442695040888963407)) / 1099511627776)
      rw [wrap64_in _ (by omega) (by omega)]; exact this.1
    · have := ha ((IntKind.u64.wrap (IntKind.u64.wrap (IntKind.u64.wrap (h * 6364136223846793005)) + 1442695040888963407)) / 1099511627776)
      rw [wrap64_in _ (by omega) (by omega)]; exact this.2
theorem pick_ok {l : List Int} (hb : By l) (p h a : Int) (hp : 0 ≤ p) (hp2 : p ≤ 999990) : ∃ r, spec_l1Cur_pick.f l p h a = some r ∧ 0 ≤ r.1 ∧ (r.1 = 0 ∨ r.1 < a) ∧ p ≤ r.2.1 ∧ r.2.1 ≤ p + 2 := by
  unfold spec_l1Cur_pick.f
  by_cases h1 : a ≤ 1
  · rw [if_pos h1]; exact ⟨_, rfl, by simp, by simp, by simp, by simp; omega⟩
  · rw [if_neg h1]
    obtain ⟨⟨v, p1, h'⟩, e, a1, a2, a3⟩ := next_ok hb p h hp (by omega)
    simp only at a1 a2 a3
    subst a3
    rw [e, Option.bind_some]
    by_cases h2 : a > 200
    · rw [if_pos h2]
      obtain ⟨⟨v2, p2, h''⟩, e2, b1, b2, b3⟩ := next_ok hb (p + 1) h' (by omega) (by omega)
      simp only at b1 b2 b3
      subst b3
      rw [e2, Option.bind_some, if_neg (by omega)]
      refine ⟨_, rfl, ?_, ?_, by simp; omega, by simp; omega⟩
      all_goals
        simp only
        rw [wrap64_in (v * 256) (by omega) (by omega), wrap64_in (v * 256 + v2) (by omega) (by omega), Int.tmod_eq_emod_of_nonneg (by omega)]
      · exact Int.emod_nonneg _ (by omega)
      · exact .inr (Int.emod_lt_of_pos _ (by omega))
    · rw [if_neg h2, if_neg (by omega)]
      refine ⟨_, rfl, ?_, ?_, by simp only; omega, by simp only; omega⟩
      all_goals
        simp only
        rw [Int.tmod_eq_emod_of_nonneg (by omega)]
      · exact Int.emod_nonneg _ (by omega)
      · exact .inr (Int.emod_lt_of_pos _ (by omega))
theorem one_ok {l : List Int} (hb : By l) (p h a : Int) (hp : 0 ≤ p) (hp2 : p ≤ 999990) : ∃ r, spec_l1Cur_one.f l p h a = some r ∧ p ≤ r.2.1 ∧ r.2.1 ≤ p + 2 := by
  obtain ⟨r, e, h1⟩ := pick_ok hb p h a hp hp2
  unfold spec_l1Cur_one.f
  rw [e]
  exact ⟨_, rfl, h1.2.2.1, h1.2.2.2⟩
theorem among_ok {l : List Int} (hb : By l) (p h : Int) (z : List Int) (hz : z ≠ []) (hp : 0 ≤ p) (hp2 : p ≤ 999990) : ∃ r, spec_l1Cur_among.f l p h z = some r ∧ r.1 ∈ z ∧ p ≤ r.2.1 ∧ r.2.1 ≤ p + 2 := by
  obtain ⟨r, e, h1, h2, h3⟩ := pick_ok hb p h (z.length : Int) hp hp2
  have hz' := List.length_pos_iff.2 hz
  unfold spec_l1Cur_among.f
  rw [e, Option.bind_some, if_pos h1, if_pos (by omega)]
  refine ⟨_, rfl, ?_, h3⟩
  obtain ⟨i, hi⟩ := Int.eq_ofNat_of_zero_le h1
  simp only [hi]
  rw [rd_get z i (by omega)]
  exact List.getElem_mem _
theorem orHas_ok (s j : Int) (hj : 0 ≤ j) : ∃ r, spec_orHas.f s j = some r ∧ True := by unfold spec_orHas.f; rw [if_pos hj]; exact ⟨_, rfl, trivial⟩
theorem l1Own_eq (l : List Int) (h : l.length < 17592186044416) : spec_l1Own.f l = some l := by
  unfold spec_l1Own.f
  simp [h]
theorem close_tot (n : Int) (l : List Int) (hl : l.length ≤ 140737488355328) : Tot (fun k => spec_CloseRelation.f k n l) (fun r => 0 ≤ r.1 ∧ (r.1 = 0 ∨ r.1 = n) ∧ r.1 ≤ 10 ∧ (r.2.1.length : Int) = r.1 ∧ r.2.2 = isRel n l) := by
  unfold spec_CloseRelation.f
  refine Tot.ebind (orRelation_ev n l hl) ?_
  cases hr : isRel n l with
  | false => simp only [Bool.false_eq_true, if_false]; exact Tot.now (by simp)
  | true =>
    obtain ⟨m, rfl, h⟩ := isRel_iff.1 hr
    have hlen := h.len
    have h10 := h.le
    simp only [if_true, l1Own_eq l (by omega), Option.bind_some, hlen]
    refine Tot.up (fun i s k => spec_CloseRelation.l0 k (m : Int) (i : Int) (m : Int) s) m (fun _ s => s.length = m) ?_ ?_ 0 (Nat.zero_le _) l hlen
    · intro i s hi hs next
      refine Tot.step (fun _ => rfl) ?_
      simp only [spec_CloseRelation.l0, if_pos (show (i : Int) < (m : Int) by omega), hs]
      refine Tot.up (fun j s k => spec_CloseRelation.l1 k (i : Int) (m : Int) (i : Int) (m : Int) (j : Int) (m : Int) s) m (fun _ s => s.length = m) ?_ ?_ 0 (Nat.zero_le _) s hs
      · intro j s hj hs next
        refine Tot.step (fun _ => rfl) ?_
        simp only [spec_CloseRelation.l1, hs, if_pos (show (j : Int) < (m : Int) by omega), if_pos (show (i : Int) < (m : Int) by omega), if_pos (show (0 : Int) ≤ (i : Int) by omega), if_pos (show (0 : Int) ≤ (j : Int) by omega), next64 j m hj (by omega)]
        refine Tot.obind (orHas_ok _ _ (by omega)) fun b _ => ?_
        refine Tot.ite (fun _ => ?_) (fun _ => ?_)
        · exact next _ (by simpa using hs)
        · exact next _ hs
      · intro s hs
        refine Tot.step (fun _ => rfl) ?_
        simp only [spec_CloseRelation.l1, if_neg (show ¬ (m : Int) < (m : Int) by omega), next64 i m hi (by omega)]
        exact next _ hs
    · intro s hs
      refine Tot.step (fun _ => rfl) ?_
      simp only [spec_CloseRelation.l0, if_neg (show ¬ (m : Int) < (m : Int) by omega)]
      exact Tot.now (by simp [hs]; omega)
theorem order_tot {l : List Int} (hb : By l) (p h a : Int) (hp : 0 ≤ p) (hp2 : p ≤ 999000) (ha0 : 0 ≤ a) (ha : a ≤ 10) :
    Tot (fun k => spec_l1Cur_order.f k l p h a) (fun r => 0 ≤ r.1 ∧ r.1 ≤ a ∧ (r.2.1.length : Int) = r.1 ∧ p ≤ r.2.2.1 ∧ r.2.2.1 ≤ p + 400) := by
  unfold spec_l1Cur_order.f
  rw [wrap64_in (a + 1) (by omega) (by omega)]
  refine Tot.obind (pick_ok hb p h (a + 1) hp (by omega)) ?_
  rintro ⟨n, p1, h1⟩ ⟨n0, n1, n2, n3⟩
  simp only at n0 n1 n2 n3
  simp only [if_pos n0]
  obtain ⟨m, rfl⟩ := Int.eq_ofNat_of_zero_le n0
  have hm : m ≤ 10 := by omega
  rw [Int.toNat_natCast]
  simp only [if_pos (show m ≤ 35184372088832 by omega)]
  refine Tot.obind (pick_ok hb p1 h1 3 (by omega) (by omega)) ?_
  rintro ⟨kd, p2, h2⟩ ⟨k0, k1, k2, k3⟩
  simp only at k0 k1 k2 k3
  refine Tot.up (fun i (s : List Int × List Int × Int × Int) k => spec_l1Cur_order.l0 k (m : Int) kd s.1 s.2.1 (i : Int) l s.2.2.1 s.2.2.2 (m : Int) (List.replicate m 0)) m
    (fun i s => s.1.length = i ∧ s.2.1.length = i ∧ p ≤ s.2.2.1 ∧ s.2.2.1 ≤ p + 4 + 4 * (i : Int)) ?_ ?_ 0 (Nat.zero_le _) ([], [], p2, h2) ⟨rfl, rfl, by simp only; omega, by simp only; omega⟩
  · rintro i ⟨x8, x9, p3, h3⟩ hi ⟨s1, s2, s3, s4⟩ next
    simp only at s1 s2 s3 s4
    refine Tot.step (fun _ => rfl) ?_
    simp only [spec_l1Cur_order.l0, if_pos (show (i : Int) < (m : Int) by omega), s1, s2, if_pos (show i < 17592186044416 by omega), next64 i m hi (by omega)]
    refine Tot.obind (pick_ok hb p3 h3 8 (by omega) (by omega)) ?_
    rintro ⟨v, p4, h4⟩ ⟨v0, v1, v2, v3⟩
    simp only at v0 v1 v2 v3
    simp only [Option.bind_some]
    refine Tot.ite (fun _ => ?_) (fun _ => ?_)
    · refine Tot.obind (pick_ok hb p4 h4 4 (by omega) (by omega)) ?_
      rintro ⟨v', p5, h5⟩ ⟨u0, u1, u2, u3⟩
      simp only at u0 u1 u2 u3
      exact next (_, _, _, _) ⟨by simp [s1], by simp [s2], by simp only; omega, by simp only; omega⟩
    · exact next (_, _, _, _) ⟨by simp [s1], by simp [s2], by simp only; omega, by simp only; omega⟩
  · rintro ⟨x8, x9, p3, h3⟩ ⟨s1, s2, s3, s4⟩
    simp only at s1 s2 s3 s4
    refine Tot.step (fun _ => rfl) ?_
    simp only [spec_l1Cur_order.l0, if_neg (show ¬ (m : Int) < (m : Int) by omega)]
    refine Tot.up (fun i (s : Int × Int × List Int) k => spec_l1Cur_order.l1 k (m : Int) kd x8 x9 (i : Int) l s.1 s.2.1 (m : Int) s.2.2) m
      (fun i s => p ≤ s.1 ∧ s.1 ≤ p + 44 + 22 * (i : Int) ∧ s.2.2.length = m) ?_ ?_ 0 (Nat.zero_le _) (p3, h3, List.replicate m 0) ⟨by simp only; omega, by simp only; omega, by simp⟩
    · rintro i ⟨p4, h4, z⟩ hi ⟨t1, t2, t3⟩ next
      simp only at t1 t2 t3
      refine Tot.step (fun _ => rfl) ?_
      simp only [spec_l1Cur_order.l1, if_pos (show (i : Int) < (m : Int) by omega)]
      refine Tot.up (fun j (s : Int × Int × List Int) k => spec_l1Cur_order.l2 k (m : Int) kd x8 x9 (i : Int) (j : Int) l s.1 s.2.1 (m : Int) s.2.2) m
        (fun j s => p ≤ s.1 ∧ s.1 ≤ p + 44 + 22 * (i : Int) + 2 * (j : Int) ∧ s.2.2.length = m) ?_ ?_ 0 (Nat.zero_le _) (p4, h4, z) ⟨by simp only; omega, by simp only; omega, t3⟩
      · rintro j ⟨p5, h5, z⟩ hj ⟨q1, q2, q3⟩ next
        simp only at q1 q2 q3
        have hone : ∀ v p' h' , p ≤ p' → p' ≤ p5 + 2 → Tot (fun k => spec_l1Cur_order.l2 k (m : Int) kd x8 x9 (i : Int) ((j + 1 : Nat) : Int) l p' h' (m : Int) (z.set i v)) _ := fun v p' h' a1 a2 => next (p', h', z.set i v) ⟨a1, by simp only; omega, by simpa using q3⟩
        have hno : ∀ p' h' , p ≤ p' → p' ≤ p5 + 2 → Tot (fun k => spec_l1Cur_order.l2 k (m : Int) kd x8 x9 (i : Int) ((j + 1 : Nat) : Int) l p' h' (m : Int) z) _ := fun p' h' a1 a2 => next (p', h', z) ⟨a1, by simp only; omega, q3⟩
        refine Tot.step (fun _ => rfl) ?_
        simp only [spec_l1Cur_order.l2, if_pos (show (j : Int) < (m : Int) by omega), s1, s2, q3, if_pos (show (i : Int) < (m : Int) by omega), if_pos (show (0 : Int) ≤ (i : Int) by omega), if_pos (show (0 : Int) ≤ (j : Int) by omega), next64 j m hj (by omega), Int.toNat_natCast]
        refine Tot.ite (fun _ => ?_) (fun _ => ?_)
        · refine Tot.ite (fun _ => ?_) (fun _ => ?_)
          · exact hone _ _ _ (by omega) (by omega)
          · refine Tot.ite (fun _ => ?_) (fun _ => hno _ _ (by omega) (by omega))
            refine Tot.ite (fun _ => ?_) (fun _ => hno _ _ (by omega) (by omega))
            refine Tot.obind (one_ok hb p5 h5 3 (by omega) (by omega)) ?_
            rintro ⟨v, p6, h6⟩ ⟨u2, u3⟩
            simp only at u2 u3
            dsimp only
            exact Tot.ite (fun _ => hone _ _ _ (by omega) (by omega)) (fun _ => hno _ _ (by omega) (by omega))
        · refine Tot.ite (fun _ => ?_) (fun _ => hno _ _ (by omega) (by omega))
          refine Tot.ite (fun _ => ?_) (fun _ => hno _ _ (by omega) (by omega))
          refine Tot.obind (one_ok hb p5 h5 3 (by omega) (by omega)) ?_
          rintro ⟨v, p6, h6⟩ ⟨u2, u3⟩
          simp only at u2 u3
          dsimp only
          exact Tot.ite (fun _ => hone _ _ _ (by omega) (by omega)) (fun _ => hno _ _ (by omega) (by omega))
      · rintro ⟨p5, h5, z⟩ ⟨q1, q2, q3⟩
        simp only at q1 q2 q3
        refine Tot.step (fun _ => rfl) ?_
        simp only [spec_l1Cur_order.l2, if_neg (show ¬ (m : Int) < (m : Int) by omega), next64 i m hi (by omega)]
        exact next (p5, h5, z) ⟨q1, by simp only; omega, q3⟩
    · rintro ⟨p4, h4, z⟩ ⟨t1, t2, t3⟩
      simp only at t1 t2 t3
      refine Tot.step (fun _ => rfl) ?_
      simp only [spec_l1Cur_order.l1, if_neg (show ¬ (m : Int) < (m : Int) by omega)]
      refine Tot.ite (fun _ => Tot.now ⟨by simp only; omega, by simp only; omega, by simp only; omega, by simp only; omega, by simp only; omega⟩) (fun _ => ?_)
      refine Tot.bind (close_tot (m : Int) z (by omega)) ?_
      rintro ⟨a1, a2, a3⟩ ⟨c1, c2, c3, c4⟩
      exact Tot.now ⟨by simp only; omega, by simp only at c2 ⊢; omega, by simp only at c4 ⊢; omega, by simp only; omega, by simp only; omega⟩
theorem relation_tot {l : List Int} (hb : By l) (p h a : Int) (hp : 0 ≤ p) (hp2 : p ≤ 999000) (ha0 : 0 ≤ a) (ha : a ≤ 10) :
    Tot (fun k => spec_l1Cur_relation.f k l p h a) (fun r => 0 ≤ r.1 ∧ r.1 ≤ a ∧ (r.2.1.length : Int) = r.1 ∧ p ≤ r.2.2.1 ∧ r.2.2.1 ≤ p + 400) := by
  unfold spec_l1Cur_relation.f
  rw [wrap64_in (a + 1) (by omega) (by omega)]
  refine Tot.obind (pick_ok hb p h (a + 1) hp (by omega)) ?_
  rintro ⟨n, p1, h1⟩ ⟨n0, n1, n2, n3⟩
  simp only at n0 n1 n2 n3
  obtain ⟨m, rfl⟩ := Int.eq_ofNat_of_zero_le n0
  have hm : m ≤ 10 := by omega
  refine Tot.up (fun i (s : Int × Int × List Int) k => spec_l1Cur_relation.l0 k l s.1 s.2.1 (m : Int) s.2.2) m
    (fun i s => p ≤ s.1 ∧ s.1 ≤ p + 2 + 20 * (i : Int) ∧ s.2.2.length = i) ?_ ?_ 0 (Nat.zero_le _) (p1, h1, []) ⟨by simp only; omega, by simp only; omega, rfl⟩
  · rintro i ⟨p2, h2, z⟩ hi ⟨s1, s2, s3⟩ next
    simp only at s1 s2 s3
    refine Tot.step (fun _ => rfl) ?_
    simp only [spec_l1Cur_relation.l0, s3, if_pos (show (i : Int) < (m : Int) by omega)]
    refine Tot.up (fun j (s : Int × Int × Int) k => spec_l1Cur_relation.l1 k s.1 (j : Int) l s.2.1 s.2.2 (m : Int) z) m
      (fun j s => p ≤ s.2.1 ∧ s.2.1 ≤ p + 2 + 20 * (i : Int) + 2 * (j : Int)) ?_ ?_ 0 (Nat.zero_le _) (0, p2, h2) ⟨by simp only; omega, by simp only; omega⟩
    · rintro j ⟨x, p3, h3⟩ hj ⟨q1, q2⟩ next
      simp only at q1 q2
      refine Tot.step (fun _ => rfl) ?_
      simp only [spec_l1Cur_relation.l1, if_pos (show (j : Int) < (m : Int) by omega), if_pos (show (0 : Int) ≤ (j : Int) by omega), next64 j m hj (by omega)]
      refine Tot.obind (one_ok hb p3 h3 4 (by omega) (by omega)) ?_
      rintro ⟨v, p6, h6⟩ ⟨u2, u3⟩
      simp only at u2 u3
      dsimp only
      exact Tot.ite (fun _ => next (_, p6, h6) ⟨by simp only; omega, by simp only; omega⟩) (fun _ => next (_, p6, h6) ⟨by simp only; omega, by simp only; omega⟩)
    · rintro ⟨x, p3, h3⟩ ⟨q1, q2⟩
      simp only at q1 q2
      refine Tot.step (fun _ => rfl) ?_
      simp only [spec_l1Cur_relation.l1, if_neg (show ¬ (m : Int) < (m : Int) by omega), s3, if_pos (show i < 17592186044416 by omega)]
      exact next (p3, h3, z ++ [x]) ⟨q1, by simp only; omega, by simp [s3]⟩
  · rintro ⟨p2, h2, z⟩ ⟨s1, s2, s3⟩
    simp only at s1 s2 s3
    refine Tot.step (fun _ => rfl) ?_
    simp only [spec_l1Cur_relation.l0, s3, if_neg (show ¬ (m : Int) < (m : Int) by omega)]
    exact Tot.now ⟨by simp only; omega, by simp only; omega, by simp only; omega, by simp only; omega, by simp only; omega⟩
theorem anyOrder_tot {l : List Int} (hb : By l) (p h a : Int) (hp : 0 ≤ p) (hp2 : p ≤ 998000) (ha0 : 0 ≤ a) (ha : a ≤ 10) :
    Tot (fun k => spec_l1Cur_anyOrder.f k l p h a) (fun r => r.2.1.length ≤ 10 ∧ p ≤ r.2.2.1 ∧ r.2.2.1 ≤ p + 900) := by
  unfold spec_l1Cur_anyOrder.f
  refine Tot.bind (order_tot hb p h a hp (by omega) ha0 ha) ?_
  rintro ⟨n, z, p1, h1⟩ ⟨n0, n1, n2, n3, n4⟩
  simp only at n0 n1 n2 n3 n4
  refine Tot.obind (pick_ok hb p1 h1 14 (by omega) (by omega)) ?_
  rintro ⟨c, p2, h2⟩ ⟨k0, k1, k2, k3⟩
  simp only at k0 k1 k2 k3
  simp only []
  refine Tot.ite (fun _ => ?_) (fun _ => Tot.ite (fun _ => ?_) (fun _ => Tot.ite (fun _ => ?_) (fun _ => Tot.ite (fun _ => ?_) (fun _ => ?_))))
  · refine Tot.bind (relation_tot hb p2 h2 a (by omega) (by omega) ha0 ha) ?_
    rintro ⟨n', z', p', h'⟩ ⟨m0, m1, m2, m3, m4⟩
    simp only at m0 m1 m2 m3 m4
    exact Tot.now ⟨by simp only; omega, by simp only; omega, by simp only; omega⟩
  · refine Tot.obind (among_ok hb p2 h2 _ (by simp) (by omega) (by omega)) ?_
    rintro ⟨v, p', h'⟩ ⟨_, m3, m4⟩
    simp only at m3 m4
    exact Tot.now ⟨by simp only; omega, by simp only; omega, by simp only; omega⟩
  · refine Tot.ite (fun hz => ?_) (fun _ => Tot.now ⟨by simp only; omega, by simp only; omega, by simp only; omega⟩)
    refine Tot.obind (pick_ok hb p2 h2 _ (by omega) (by omega)) ?_
    rintro ⟨v, p', h'⟩ ⟨v0, v1, m3, m4⟩
    simp only at v0 v1 m3 m4
    simp only [if_pos n0]
    refine Tot.obind (among_ok hb p' h' _ (by simp) (by omega) (by omega)) ?_
    rintro ⟨v', p'', h''⟩ ⟨_, m5, m6⟩
    simp only at m5 m6
    simp only [if_pos v0]
    rw [if_pos (show v < (z.length : Int) by omega)]
    exact Tot.now ⟨by simp only [List.length_set]; omega, by simp only; omega, by simp only; omega⟩
  · refine Tot.bind (order_tot hb p2 h2 10 (by omega) (by omega) (by omega) (by omega)) ?_
    rintro ⟨n', z', p', h'⟩ ⟨m0, m1, m2, m3, m4⟩
    simp only at m0 m1 m2 m3 m4
    exact Tot.now ⟨by simp only; omega, by simp only; omega, by simp only; omega⟩
  · exact Tot.now ⟨by simp only; omega, by simp only; omega, by simp only; omega⟩
end Go.Proofs.YtfjpilcmjabikaaDoor.M
namespace Go.Proofs.YtfjpilcmjabikaaDoor.P
open Go.RowKit Go.Proofs.YtfjpilcmjabikaaDoorW.PrintWords Go.Proofs.YtfjpilcmjabikaaDoorW.PrintLast Go.Proofs.YtfjpilcmjabikaaDoorW.PrintMore
open Bool renaming true → T, false → F
open List renaming setIfInBounds_toArray → L_, set_cons_zero → M_, set_cons_succ → N_, map_toArray → P_, map_cons → Q_, map_nil → R_, length_drop → S_, length_take → U_
open Aside0 renaming mk → A_
attribute [local go_sem] max2_int min2_int max_two min_two max_three min_three max_four min_four
set_option linter.unusedVariables false
set_option linter.unusedSimpArgs false
attribute [local go_sem] fldOrder_0 fldOrder_1
def impl_IndifferentTo.f (k : Nat) (a0_0 : Int) (l0_1 : List Int) (a1 : Int) : Option (Int × Bool) := (impl_IsRelation.f k a0_0 l0_1).bind fun t974 => (if t974 = true then ((impl_Order_has.f k a0_0 l0_1 (([a1] : List Int))).bind fun t978 => (if t978 = true then ((impl_Order_indifferent.f k a0_0 l0_1).bind fun t979 => (if 0 ≤ a1 then (if a1 < (t979.length : Int) then (some (rd t979 a1, true)) else (none)) else (none))) else (some (0, false)))) else (some (0, false)))
def impl_IsBetter.f (k : Nat) (a0_0 : Int) (l0_1 : List Int) (a1 : Int) (a2 : Int) : Option (Bool × Bool) := (impl_IsRelation.f k a0_0 l0_1).bind fun t967 => (if t967 = true then ((impl_Order_has.f k a0_0 l0_1 (([a1, a2] : List Int))).bind fun t971 => (if t971 = true then ((impl_Order_better.f a0_0 l0_1 a1 a2).bind fun t972 => (some (t972, true))) else (some (false, false)))) else (some (false, false)))
end Go.Proofs.YtfjpilcmjabikaaDoor.P
namespace Go.Proofs.YtfjpilcmjabikaaDoor.P
open Go.RowKit Go.Proofs.YtfjpilcmjabikaaDoorW.PrintWords Go.Proofs.YtfjpilcmjabikaaDoorW.PrintLast Go.Proofs.YtfjpilcmjabikaaDoorW.PrintMore
open Bool renaming true → T, false → F
open List renaming setIfInBounds_toArray → L_, set_cons_zero → M_, set_cons_succ → N_, map_toArray → P_, map_cons → Q_, map_nil → R_, length_drop → S_, length_take → U_
open Aside0 renaming mk → A_
attribute [local go_sem] max2_int min2_int max_two min_two max_three min_three max_four min_four
set_option linter.unusedVariables false
set_option linter.unusedSimpArgs false
attribute [local go_sem] fldOrder_0 fldOrder_1
def laws_pSameOrder.f (k : Nat) (a0_0 : Int) (l0_1 : List Int) (a1_0 : Int) (l1_1 : List Int) : Option (Bool) := if a0_0 = a1_0 then ((laws_pSame.f k l0_1 l1_1).bind fun t279 => (some t279)) else (some false)
end Go.Proofs.YtfjpilcmjabikaaDoor.P
namespace Go.Proofs.YtfjpilcmjabikaaDoor.M
open Go.RowKit Go.Proofs.YtfjpilcmjabikaaDoorW.PrintMore Go.Proofs.YtfjpilcmjabikaaDoorW.PrintLast Go.Proofs.YtfjpilcmjabikaaDoorW.PrintWords Go.Proofs.YtfjpilcmjabikaaDoor.P
def mir (n : Nat) (l : List Int) : List Int := relL n fun i j => B l j i
theorem mir_rel {n : Nat} {l : List Int} (h : Rel n l) : Rel n (mir n l) := relL_rel n h.le _
theorem mirror_ev {n : Nat} {l : List Int} (h : Rel n l) : Ev (fun k => impl_Order_mirror.f k (n : Int) l) ((n : Int), mir n l) := by
  have hn := h.le
  unfold impl_Order_mirror.f
  refine Ev.bind (relation_ev n (by omega) (fun _ x y => impl_Order_mirror_1.f x y (n : Int) l) (fun i j => B l j i) ?_) (Ev.now _)
  intro i j hi hj
  refine Ev.const ?_
  unfold impl_Order_mirror_1.f
  rw [better_eq h n j i hj (by omega)]
  rfl
theorem rel_is {n : Nat} {l : List Int} (h : Rel n l) : isRel n l = true := isRel_iff.2 ⟨n, rfl, h⟩
theorem pIn_eq (s j : Nat) (hj : j ≤ 64) : laws_pIn.f (s : Int) (j : Int) = some (s.testBit j) := by
  unfold laws_pIn.f
  rw [if_pos (by omega), has_mod _ _ (by omega) hj, bit_cast]
theorem pSame_ev (l l' : List Int) (hl : l.length ≤ 140737488355328) : Ev (fun k => laws_pSame.f k l l') (decide (l = l')) := by
  unfold laws_pSame.f
  by_cases h : (l.length : Int) = (l'.length : Int)
  · simp only [if_pos h]
    refine Ev.to (Ev.all (fun i k => laws_pSame.l0 k l l' (l.length : Int) (i : Int)) l.length (fun i => decide (l.getD i 0 = l'.getD i 0)) ?_ ?_ ?_) ?_
    · intro i r hi hp next
      refine Ev.step (fun _ => rfl) ?_
      simp only [laws_pSame.l0, if_pos (show (i : Int) < (l.length : Int) by omega), if_pos (show (0 : Int) ≤ (i : Int) by omega), if_pos (show (i : Int) < (l'.length : Int) by omega), rd_nat, if_pos (of_decide_eq_true hp), next64 i l.length hi (by omega)]
      exact next
    · intro i hi hp
      refine Ev.step (fun _ => rfl) ?_
      simp only [laws_pSame.l0, if_pos (show (i : Int) < (l.length : Int) by omega), if_pos (show (0 : Int) ≤ (i : Int) by omega), if_pos (show (i : Int) < (l'.length : Int) by omega), rd_nat, if_neg (of_decide_eq_false hp)]
      exact Ev.now _
    · refine Ev.step (fun _ => rfl) ?_
      simp only [laws_pSame.l0, if_neg (show ¬ (l.length : Int) < (l.length : Int) by omega)]
      exact Ev.now _
    · rw [Bool.eq_iff_iff, allB_iff, decide_eq_true_iff]
      constructor
      · intro H
        exact list_ext_getD (by omega) fun i hi => of_decide_eq_true (H i hi)
      · rintro rfl i _
        simp
  · simp only [if_neg h]
    refine Ev.to (Ev.now _) ?_
    symm
    rw [decide_eq_false_iff_not]
    rintro rfl
    exact h rfl
end Go.Proofs.YtfjpilcmjabikaaDoor.M
namespace Go.Proofs.YtfjpilcmjabikaaDoor.M
open Go.RowKit Go.Proofs.YtfjpilcmjabikaaDoorW.PrintMore Go.Proofs.YtfjpilcmjabikaaDoorW.PrintLast Go.Proofs.YtfjpilcmjabikaaDoorW.PrintWords Go.Proofs.YtfjpilcmjabikaaDoor.P
def hit22 (l : List Int) (a b c d : Nat) : Bool := B l a b && (B l c d && (!B l c b && !B l a d))
def no22 (n : Nat) (l : List Int) : Bool := allB n fun a => allB n fun b => allB n fun c => allB n fun d => !hit22 l a b c d
theorem no22_iff {n : Nat} {l : List Int} : no22 n l = true ↔ ∀ a, a < n → ∀ b, b < n → ∀ c, c < n → ∀ d, d < n → hit22 l a b c d = false := by
  unfold no22
  simp only [allB_iff, Bool.not_eq_true']
end Go.Proofs.YtfjpilcmjabikaaDoor.M
namespace Go.Proofs.YtfjpilcmjabikaaDoor.M
open Go.RowKit Go.Proofs.YtfjpilcmjabikaaDoorW.PrintMore Go.Proofs.YtfjpilcmjabikaaDoorW.PrintLast Go.Proofs.YtfjpilcmjabikaaDoorW.PrintWords Go.Proofs.YtfjpilcmjabikaaDoor.P
set_option maxRecDepth 4000
theorem twoTwo_ev {n : Nat} {l : List Int} (h : Rel n l) : EvP (fun k => impl_Order_twoTwo.f k (n : Int) l) (fun r => r = []) (∀ a, a < n → ∀ b, b < n → ∀ c, c < n → ∀ d, d < n → hit22 l a b c d = false) := by
  have hn := h.le
  unfold impl_Order_twoTwo.f
  refine EvP.iff (EvP.loop (fun a k => impl_Order_twoTwo.l0 k (n : Int) (a : Int) (n : Int) l) n (fun a => ∀ b, b < n → ∀ c, c < n → ∀ d, d < n → hit22 l a b c d = false) True ?_ ?_) (by rw [and_true])
  · intro a T ha next
    refine EvP.step (fun _ => rfl) ?_
    simp only [impl_Order_twoTwo.l0, if_pos (show (a : Int) < (n : Int) by omega)]
    refine EvP.loop (fun b k => impl_Order_twoTwo.l1 k (a : Int) (n : Int) (a : Int) (n : Int) (b : Int) (n : Int) l) n (fun b => ∀ c, c < n → ∀ d, d < n → hit22 l a b c d = false) T ?_ ?_
    · intro b T hb next
      refine EvP.step (fun _ => rfl) ?_
      simp only [impl_Order_twoTwo.l1, if_pos (show (b : Int) < (n : Int) by omega)]
      refine EvP.loop (fun c k => impl_Order_twoTwo.l2 k (a : Int) (b : Int) (n : Int) (a : Int) (n : Int) (b : Int) (n : Int) (c : Int) (n : Int) l) n (fun c => ∀ d, d < n → hit22 l a b c d = false) T ?_ ?_
      · intro c T hc next
        refine EvP.step (fun _ => rfl) ?_
        simp only [impl_Order_twoTwo.l2, if_pos (show (c : Int) < (n : Int) by omega)]
        refine EvP.loop (fun d k => impl_Order_twoTwo.l3 k (a : Int) (b : Int) (c : Int) (n : Int) (a : Int) (n : Int) (b : Int) (n : Int) (c : Int) (n : Int) (d : Int) (n : Int) l) n (fun d => hit22 l a b c d = false) T ?_ ?_
        · intro d T hd next
          refine EvP.step (fun _ => rfl) ?_
          simp only [impl_Order_twoTwo.l3, if_pos (show (d : Int) < (n : Int) by omega), better_eq h _ _ _ ha (show b ≤ 62 by omega), better_eq h _ _ _ hc (show d ≤ 62 by omega), better_eq h _ _ _ hc (show b ≤ 62 by omega), better_eq h _ _ _ ha (show d ≤ 62 by omega), Option.bind_some, next64 d n hd (by omega)]
          unfold hit22
          cases h1 : B l a b with
          | false => simp only [Bool.false_eq_true, if_false]; exact EvP.iff next (by simp)
          | true =>
            cases h2 : B l c d with
            | false => simp only [Bool.false_eq_true, if_false, if_true]; exact EvP.iff next (by simp)
            | true =>
              cases h3 : B l c b with
              | true => simp only [if_true]; exact EvP.iff next (by simp)
              | false =>
                cases h4 : B l a d with
                | true => simp only [Bool.false_eq_true, if_false, if_true]; exact EvP.iff next (by simp)
                | false => simp only [Bool.false_eq_true, if_false, if_true]; exact EvP.now (by simp)
        · refine EvP.step (fun _ => rfl) ?_
          simp only [impl_Order_twoTwo.l3, if_neg (show ¬ (n : Int) < (n : Int) by omega), next64 c n hc (by omega)]
          exact next
      · refine EvP.step (fun _ => rfl) ?_
        simp only [impl_Order_twoTwo.l2, if_neg (show ¬ (n : Int) < (n : Int) by omega), next64 b n hb (by omega)]
        exact next
    · refine EvP.step (fun _ => rfl) ?_
      simp only [impl_Order_twoTwo.l1, if_neg (show ¬ (n : Int) < (n : Int) by omega), next64 a n ha (by omega)]
      exact next
  · refine EvP.step (fun _ => rfl) ?_
    simp only [impl_Order_twoTwo.l0, if_neg (show ¬ (n : Int) < (n : Int) by omega)]
    exact EvP.now (by simp)
def isInt (n : Int) (l : List Int) : Bool := isOrd n l && no22 n.toNat l
theorem isInterval_ev (n : Int) (l : List Int) (hl : l.length ≤ 140737488355328) : Ev (fun k => impl_isInterval.f k n l) (isInt n l) := by
  unfold impl_isInterval.f isInt
  refine Ev.bind (IsOrder_ev n l hl) ?_
  cases ho : isOrd n l with
  | false => simp only [Bool.false_eq_true, if_false, Bool.false_and]; exact Ev.now _
  | true =>
    obtain ⟨n, rfl, o⟩ := isOrd_iff.1 ho
    simp only [if_true, Bool.true_and, Int.toNat_natCast]
    obtain ⟨r, hr, e⟩ := twoTwo_ev o.toRel
    refine Ev.bind hr (Ev.to (Ev.now _) ?_)
    rw [Bool.eq_iff_iff, beq_iff_eq, no22_iff]
    exact e
end Go.Proofs.YtfjpilcmjabikaaDoor.M
namespace Go.Proofs.YtfjpilcmjabikaaDoor.P
open Go.RowKit Go.Proofs.YtfjpilcmjabikaaDoorW.PrintWords Go.Proofs.YtfjpilcmjabikaaDoorW.PrintLast Go.Proofs.YtfjpilcmjabikaaDoorW.PrintMore
open Bool renaming true → T, false → F
open List renaming setIfInBounds_toArray → L_, set_cons_zero → M_, set_cons_succ → N_, map_toArray → P_, map_cons → Q_, map_nil → R_, length_drop → S_, length_take → U_
open Aside0 renaming mk → A_
attribute [local go_sem] max2_int min2_int max_two min_two max_three min_three max_four min_four
set_option linter.unusedVariables false
set_option linter.unusedSimpArgs false
attribute [local go_sem] fldOrder_0 fldOrder_1
def spec_l1Most.f (a0 : Int) (a1 : Int) : Option (Int) := if a0 > a1 then (some a0) else (some a1)
end Go.Proofs.YtfjpilcmjabikaaDoor.P
namespace Go.Proofs.YtfjpilcmjabikaaDoor.P
open Go.RowKit Go.Proofs.YtfjpilcmjabikaaDoorW.PrintWords Go.Proofs.YtfjpilcmjabikaaDoorW.PrintLast Go.Proofs.YtfjpilcmjabikaaDoorW.PrintMore
open Bool renaming true → T, false → F
open List renaming setIfInBounds_toArray → L_, set_cons_zero → M_, set_cons_succ → N_, map_toArray → P_, map_cons → Q_, map_nil → R_, length_drop → S_, length_take → U_
open Aside0 renaming mk → A_
attribute [local go_sem] max2_int min2_int max_two min_two max_three min_three max_four min_four
set_option linter.unusedVariables false
set_option linter.unusedSimpArgs false
attribute [local go_sem] fldOrder_0 fldOrder_1
def spec_orPlace.l0 : Nat → Int → List Int → Int → Int → Option (Int)
 | 0,_,_,_,_=>none
 | k + 1,x1,x7,x8,x9=>if x9 < x8 then (if 0 ≤ x9 then (if x9 < (x7.length : Int) then (if (rd x7 x9) = x1 then (some x9) else (spec_orPlace.l0 k x1 x7 x8 (wrap64 (x9 + 1)))) else (none)) else (none)) else (some (-1))
def spec_orPlace.f (k : Nat) (l0 : List Int) (a1 : Int) : Option (Int) := spec_orPlace.l0 k a1 l0 (l0.length : Int) 0
end Go.Proofs.YtfjpilcmjabikaaDoor.P
namespace Go.Proofs.YtfjpilcmjabikaaDoor.M
def srt (l : List Int) : List Int := l.mergeSort fun x y => decide (x ≤ y)
theorem srt_perm (l : List Int) : (srt l).Perm l := List.mergeSort_perm _ _
theorem srt_sorted (l : List Int) : (srt l).Pairwise (· ≤ ·) := by
  have h := List.pairwise_mergeSort (le := fun (x y : Int) => decide (x ≤ y)) (by intro a b c h1 h2; simp only [decide_eq_true_iff] at *; omega) (by intro a b; simp only [Bool.or_eq_true, decide_eq_true_iff]; omega) l
  exact h.imp (fun h => of_decide_eq_true h)
def put (T : List Nat) (k i : Nat) : List Nat := T.take k ++ i :: T.drop k
def ins (x : Int) : List Int → List Int
  | [] => [x]
  | y :: l => if y < x then y :: ins x l else if y = x then y :: l else x :: y :: l
def Inc (l : List Int) : Prop := l.Pairwise (· < ·)
theorem mem_ins (x y : Int) (l : List Int) : y ∈ ins x l ↔ y = x ∨ y ∈ l := by
  induction l with
  | nil => simp [ins]
  | cons z l ih =>
    unfold ins
    split
    · rw [List.mem_cons, ih, List.mem_cons]
      constructor
      · rintro (h | h | h)
        · exact .inr (.inl h)
        · exact .inl h
        · exact .inr (.inr h)
      · rintro (h | h | h)
        · exact .inr (.inl h)
        · exact .inl h
        · exact .inr (.inr h)
    · split
      · rename_i h1 h2
        rw [List.mem_cons]
        constructor
        · exact .inr
        · rintro (h | h)
          · exact .inl (h.trans h2.symm)
          · exact h
      · rw [List.mem_cons]
theorem inc_ins (x : Int) (l : List Int) (h : Inc l) : Inc (ins x l) := by
  induction l with
  | nil => simp [ins, Inc]
  | cons z l ih =>
    have h' := List.pairwise_cons.1 h
    unfold ins
    split
    · rename_i hz
      refine List.pairwise_cons.2 ⟨fun y hy => ?_, ih h'.2⟩
      rcases (mem_ins x y l).1 hy with rfl | hy
      · exact hz
      · exact h'.1 y hy
    · split
      · exact h
      · rename_i h1 h2
        refine List.pairwise_cons.2 ⟨fun y hy => ?_, h⟩
        rcases List.mem_cons.1 hy with rfl | hy
        · omega
        · have := h'.1 y hy; omega
def dif (l : List Int) : List Int := l.foldl (fun acc x => ins x acc) []
theorem dif_foldl (l acc : List Int) (h : Inc acc) : Inc (l.foldl (fun acc x => ins x acc) acc) ∧ ∀ y, y ∈ l.foldl (fun acc x => ins x acc) acc ↔ y ∈ acc ∨ y ∈ l := by
  induction l generalizing acc with
  | nil => exact ⟨h, fun y => by simp⟩
  | cons x l ih =>
    obtain ⟨h1, h2⟩ := ih (ins x acc) (inc_ins x acc h)
    refine ⟨h1, fun y => (h2 y).trans ?_⟩
    rw [mem_ins, List.mem_cons]
    constructor
    · rintro ((h | h) | h)
      · exact .inr (.inl h)
      · exact .inl h
      · exact .inr (.inr h)
    · rintro (h | h | h)
      · exact .inl (.inr h)
      · exact .inl (.inl h)
      · exact .inr h
theorem dif_inc (l : List Int) : Inc (dif l) := (dif_foldl l [] List.Pairwise.nil).1
theorem mem_dif (l : List Int) (y : Int) : y ∈ dif l ↔ y ∈ l := by
  have := (dif_foldl l [] List.Pairwise.nil).2 y
  unfold dif
  simpa using this
theorem inc_nodup {l : List Int} (h : Inc l) : l.Nodup := h.imp (fun h => by omega)
theorem inc_ext {l l' : List Int} (h : Inc l) (h' : Inc l') (hm : ∀ y, y ∈ l ↔ y ∈ l') : l = l' :=
  List.Perm.eq_of_pairwise (fun _ _ _ _ h1 h2 => by omega) h h' ((List.perm_ext_iff_of_nodup (inc_nodup h) (inc_nodup h')).2 hm)
theorem dif_length_le (l : List Int) : (dif l).length ≤ l.length := by
  have : ∀ (l acc : List Int), (l.foldl (fun acc x => ins x acc) acc).length ≤ acc.length + l.length := by
    intro l
    induction l with
    | nil => intro acc; simp
    | cons x l ih =>
      intro acc
      have h1 := ih (ins x acc)
      have h2 : (ins x acc).length ≤ acc.length + 1 := by
        clear h1 ih
        induction acc with
        | nil => simp [ins]
        | cons y acc ih => unfold ins; split <;> (try split) <;> simp <;> omega
      simp only [List.foldl_cons, List.length_cons]
      omega
  unfold dif
  simpa using this l []
theorem compact_srt (l : List Int) : Lib.compact (srt l) = dif l := by
  have hs := srt_sorted l
  have hp := List.pairwise_iff_getElem.1 hs
  have hg : ∀ j (hj : j < (srt l).length), (srt l).toArray[j]! = (srt l)[j] := by intro j hj; simp [hj]
  refine inc_ext ?_ (dif_inc l) fun y => ?_
  · unfold Lib.compact Lib.compactUpTo Inc
    rw [List.pairwise_map]
    refine List.Pairwise.imp_of_mem (R := fun a b => a < b) (fun {a b} ha hb hab => ?_) (List.pairwise_lt_range.sublist List.filter_sublist)
    rw [List.mem_filter, List.mem_range] at ha hb
    have hk := hb.2
    unfold Lib.keeps at hk
    rw [decide_eq_true_iff] at hk
    have hk := hk.resolve_left (by omega)
    rw [hg a ha.1, hg b hb.1]
    rw [hg b hb.1, hg (b - 1) (by omega)] at hk
    have h1 := hp (b - 1) b (by omega) hb.1 (by omega)
    by_cases hab' : a = b - 1
    · subst hab'; omega
    · have := hp a (b - 1) ha.1 (by omega) (by omega); omega
  · rw [mem_dif, ← (srt_perm l).mem_iff]
    unfold Lib.compact Lib.compactUpTo
    rw [List.mem_map]
    constructor
    · rintro ⟨j, hj, rfl⟩
      rw [List.mem_filter, List.mem_range] at hj
      rw [hg j hj.1]
      exact List.getElem_mem _
    · intro hy
      obtain ⟨j, hj, e⟩ := List.mem_iff_getElem.1 hy
      induction j using Nat.strongRecOn with
      | _ j ih =>
        by_cases h0 : j = 0 ∨ (srt l)[j] ≠ (srt l)[j - 1]'(by omega)
        · refine ⟨j, ?_, by rw [hg j hj]; exact e⟩
          rw [List.mem_filter, List.mem_range]
          refine ⟨hj, ?_⟩
          unfold Lib.keeps
          rw [decide_eq_true_iff, hg j hj, hg (j - 1) (by omega)]
          exact h0
        · have h1 : ¬ j = 0 := fun h => h0 (.inl h)
          have h2 : (srt l)[j] = (srt l)[j - 1]'(by omega) := Decidable.byContradiction fun h => h0 (.inr h)
          exact ih (j - 1) (by omega) (by omega) (by rw [← h2]; exact e)
end Go.Proofs.YtfjpilcmjabikaaDoor.M
namespace Go.Proofs.YtfjpilcmjabikaaDoor.M
open Go.RowKit Go.Proofs.YtfjpilcmjabikaaDoorW.PrintMore Go.Proofs.YtfjpilcmjabikaaDoorW.PrintLast Go.Proofs.YtfjpilcmjabikaaDoorW.PrintWords Go.Proofs.YtfjpilcmjabikaaDoor.P
def level (sets : List Int) (own : Nat) : Nat := sets.countP fun s => decide (s ≠ (own : Int) ∧ diff s.toNat own = 0)
end Go.Proofs.YtfjpilcmjabikaaDoor.M
namespace Go.Proofs.YtfjpilcmjabikaaDoor.M
open Go.RowKit Go.Proofs.YtfjpilcmjabikaaDoorW.PrintMore Go.Proofs.YtfjpilcmjabikaaDoorW.PrintLast Go.Proofs.YtfjpilcmjabikaaDoorW.PrintWords Go.Proofs.YtfjpilcmjabikaaDoor.P
set_option maxRecDepth 4000
theorem take_next {zs : List Int} (i : Nat) (hi : i < zs.length) : zs.take (i + 1) = zs.take i ++ [zs.getD i 0] := by rw [List.take_add_one]; simp [hi]
theorem different_eq (l : List Int) (h : l.length ≤ 1048576) : impl_different.f l = some (dif l) := by
  unfold impl_different.f
  rw [if_pos (by omega), show HD.srt l = srt l from rfl, compact_srt]
theorem Rel.rows {n : Nat} {l : List Int} (h : Rel n l) : l = (List.range n).map fun i => ((row l i : Nat) : Int) := by
  refine list_ext_getD (by rw [h.len]; simp) fun i hi => ?_
  rw [h.len] at hi
  rw [h.getD]
  simp [hi]
def levelsL (n : Nat) (m : List Int) : List Int := (List.range n).map fun j => ((level (dif m) (row m j) : Nat) : Int)
theorem level_snoc (L : List Int) (s : Int) (own : Nat) : level (L ++ [s]) own = level L own + if s ≠ (own : Int) ∧ diff s.toNat own = 0 then 1 else 0 := by
  unfold level
  rw [List.countP_append, List.countP_singleton]
  simp only [decide_eq_true_iff]
theorem level_le (L : List Int) (own : Nat) : level L own ≤ L.length := List.countP_le_length
theorem levels_ev {n : Nat} {l : List Int} (h : Rel n l) : Ev (fun k => impl_Order_levels.f k (n : Int) l) (levelsL n (mir n l)) := by
  have hn := h.le
  have hm := mir_rel h
  have hd := dif_length_le (mir n l)
  rw [hm.len] at hd
  unfold impl_Order_levels.f
  refine Ev.bind (mirror_ev h) ?_
  simp only [different_eq (mir n l) (by rw [hm.len]; omega), Option.bind_some, hm.len]
  refine Ev.up (fun j k => impl_Order_levels.l0 k ((List.range j).map fun j => ((level (dif (mir n l)) (row (mir n l) j) : Nat) : Int)) (dif (mir n l)) (mir n l) (n : Int) (j : Int)) n ?_ ?_
  · intro j hj next
    refine Ev.step (fun _ => rfl) ?_
    simp only [impl_Order_levels.l0, if_pos (show (j : Int) < (n : Int) by omega), if_pos (show (0 : Int) ≤ (j : Int) by omega), hm.len, hm.rd]
    refine Ev.up (fun q k => impl_Order_levels.l1 k ((List.range j).map fun j => ((level (dif (mir n l)) (row (mir n l) j) : Nat) : Int)) (dif (mir n l)) ((row (mir n l) j : Nat) : Int) ((level ((dif (mir n l)).take q) (row (mir n l) j) : Nat) : Int) (mir n l) (n : Int) (j : Int) (dif (mir n l)) ((dif (mir n l)).length : Int) (q : Int)) (dif (mir n l)).length ?_ ?_
    · intro q hq next
      obtain ⟨i, hi, hs⟩ : ∃ i, i < n ∧ (dif (mir n l)).getD q 0 = ((row (mir n l) i : Nat) : Int) := by
        have hmem : (dif (mir n l)).getD q 0 ∈ dif (mir n l) := by simp [hq]
        rw [mem_dif] at hmem
        rw [hm.rows] at hmem
        obtain ⟨i, hi, e⟩ := List.mem_map.1 hmem
        exact ⟨i, List.mem_range.1 hi, by rw [← hm.rows] at e; exact e.symm⟩
      have hlv := level_le ((dif (mir n l)).take q) (row (mir n l) j)
      rw [List.length_take] at hlv
      rw [take_next q hq, level_snoc, hs, Int.toNat_natCast] at next
      refine Ev.step (fun _ => rfl) ?_
      simp only [impl_Order_levels.l1, if_pos (show (q : Int) < ((dif (mir n l)).length : Int) by omega), if_pos (show (0 : Int) ≤ (q : Int) by omega), rd_nat, hs, andNot_i64 _ _ (hm.row_62 i) (hm.row_62 j), next64 q _ hq (by omega)]
      by_cases c : row (mir n l) i = row (mir n l) j
      · rw [if_neg (fun h => h.1 (by omega))] at next
        simp only [if_pos (show ((row (mir n l) i : Nat) : Int) = ((row (mir n l) j : Nat) : Int) by omega)]
        exact next
      · simp only [if_neg (show ¬ ((row (mir n l) i : Nat) : Int) = ((row (mir n l) j : Nat) : Int) by omega)]
        by_cases c2 : diff (row (mir n l) i) (row (mir n l) j) = 0
        · rw [if_pos ⟨by omega, c2⟩] at next
          simp only [if_pos (show ((diff (row (mir n l) i) (row (mir n l) j) : Nat) : Int) = 0 by omega), next64 (level ((dif (mir n l)).take q) (row (mir n l) j)) 1048576 (by omega) (by omega)]
          exact next
        · rw [if_neg (fun h => c2 h.2)] at next
          simp only [if_neg (show ¬ ((diff (row (mir n l) i) (row (mir n l) j) : Nat) : Int) = 0 by omega)]
          exact next
    · refine Ev.step (fun _ => rfl) ?_
      simp only [impl_Order_levels.l1, if_neg (show ¬ ((dif (mir n l)).length : Int) < ((dif (mir n l)).length : Int) by omega), List.length_map, List.length_range, if_pos (show j < 17592186044416 by omega), List.take_length, next64 j n hj (by omega)]
      simpa [List.range_succ] using next
  · refine Ev.step (fun _ => rfl) ?_
    simp only [impl_Order_levels.l0, if_neg (show ¬ (n : Int) < (n : Int) by omega)]
    exact Ev.now _
end Go.Proofs.YtfjpilcmjabikaaDoor.M
namespace Go.Proofs.YtfjpilcmjabikaaDoor.M
open Go.RowKit Go.Proofs.YtfjpilcmjabikaaDoorW.PrintMore Go.Proofs.YtfjpilcmjabikaaDoorW.PrintLast Go.Proofs.YtfjpilcmjabikaaDoorW.PrintWords Go.Proofs.YtfjpilcmjabikaaDoor.P
set_option maxRecDepth 4000
abbrev Iv := S102
def Lf (L : List Iv) (i : Nat) : Int := (L.getD i z102).f0
def Rt (L : List Iv) (i : Nat) : Int := (L.getD i z102).f1
theorem rd_iv0 (L : List Iv) (i : Nat) : (rd_T102 L (i : Int)).f0 = Lf L i := by simp [rd_T102, Lf]
theorem rd_iv1 (L : List Iv) (i : Nat) : (rd_T102 L (i : Int)).f1 = Rt L i := by simp [rd_T102, Rt]
theorem ivRefuses_eq {n : Nat} {l : List Int} (h : Rel n l) (a b c d : Nat) (ha : a < n) (hb : b < n) (hc : c < n) (hd : d < n) : spec_ivRefuses.f (n : Int) l (a : Int) (b : Int) (c : Int) (d : Int) = some (hit22 l a b c d) := by
  have hn := h.le
  unfold spec_ivRefuses.f hit22
  have e : ∀ x y, (row l x).testBit y = B l x y := fun _ _ => rfl
  simp only [if_pos (show (0 : Int) ≤ (a : Int) by omega), if_pos (show (0 : Int) ≤ (c : Int) by omega), h.len, if_pos (show (a : Int) < (n : Int) by omega), if_pos (show (c : Int) < (n : Int) by omega), h.rd, orHas_eq _ b (by omega), orHas_eq _ d (by omega), Option.bind_some, e]
  cases B l a b <;> cases B l c d <;> cases B l c b <;> cases B l a d <;> rfl
def LV (n : Nat) (l : List Int) (i : Nat) : Nat := level (dif (mir n l)) (row (mir n l) i)
theorem levelsL_rd {n : Nat} {l : List Int} (i : Nat) (hi : i < n) : rd (levelsL n (mir n l)) (i : Int) = ((LV n l i : Nat) : Int) := by
  rw [rd_nat]
  simp [levelsL, LV, hi]
def rgt (n : Nat) (l : List Int) (i : Nat) : Nat → Int
  | 0 => ((LV n l i : Nat) : Int)
  | j + 1 => if B l i j then rgt n l i j else mx (rgt n l i j) ((LV n l j : Nat) : Int)
def endsL (n : Nat) (l : List Int) : List Iv := (List.range n).map fun i => (⟨((LV n l i : Nat) : Int), rgt n l i n⟩ : Iv)
theorem endsL_length (n : Nat) (l : List Int) : (endsL n l).length = n := by simp [endsL]
theorem ends_ev {n : Nat} {l : List Int} (h : Rel n l) : Ev (fun k => impl_Order_ends.f k (n : Int) l) (endsL n l) := by
  have hn := h.le
  have hlen : (levelsL n (mir n l)).length = n := by simp [levelsL]
  unfold impl_Order_ends.f
  refine Ev.bind (levels_ev h) ?_
  rw [hlen]
  refine Ev.up (fun i k => impl_Order_ends.l0 k ((List.range i).map fun i => (⟨((LV n l i : Nat) : Int), rgt n l i n⟩ : Iv)) (levelsL n (mir n l)) (levelsL n (mir n l)) (n : Int) (i : Int) (n : Int) l) n ?_ ?_
  · intro i hi next
    refine Ev.step (fun _ => rfl) ?_
    simp only [impl_Order_ends.l0, if_pos (show (i : Int) < (n : Int) by omega), if_pos (show (0 : Int) ≤ (i : Int) by omega), hlen, levelsL_rd i hi]
    refine Ev.up (fun j k => impl_Order_ends.l1 k ((List.range i).map fun i => (⟨((LV n l i : Nat) : Int), rgt n l i n⟩ : Iv)) (levelsL n (mir n l)) (i : Int) ((LV n l i : Nat) : Int) (rgt n l i j) (levelsL n (mir n l)) (n : Int) (i : Int) (levelsL n (mir n l)) (n : Int) (j : Int) (n : Int) l) n ?_ ?_
    · intro j hj next
      refine Ev.step (fun _ => rfl) ?_
      simp only [impl_Order_ends.l1, if_pos (show (j : Int) < (n : Int) by omega), if_pos (show (0 : Int) ≤ (j : Int) by omega), hlen, better_eq h _ i j hi (by omega), Option.bind_some, levelsL_rd j hj, next64 j n hj (by omega)]
      rw [rgt] at next
      cases hb : B l i j with
      | true => rw [hb, if_pos rfl] at next; simp only [if_true]; exact next
      | false => rw [hb, if_neg (by simp)] at next; simp only [Bool.false_eq_true, if_false]; exact next
    · refine Ev.step (fun _ => rfl) ?_
      simp only [impl_Order_ends.l1, if_neg (show ¬ (n : Int) < (n : Int) by omega), List.length_map, List.length_range, if_pos (show i < 8796093022208 by omega), next64 i n hi (by omega)]
      simpa [List.range_succ] using next
  · refine Ev.step (fun _ => rfl) ?_
    simp only [impl_Order_ends.l0, if_neg (show ¬ (n : Int) < (n : Int) by omega)]
    exact Ev.now _
def endsOf (n : Int) (l : List Int) : List Iv × Bool := if isInt n l then (endsL n.toNat l, true) else ([], false)
theorem isInt_ord {n : Int} {l : List Int} (h : isInt n l = true) : isOrd n l = true := by
  unfold isInt at h
  rw [Bool.and_eq_true] at h
  exact h.1
theorem EndsOf_ev (n : Int) (l : List Int) (hl : l.length ≤ 140737488355328) : Ev (fun k => impl_EndsOf.f k n l) (endsOf n l) := by
  unfold impl_EndsOf.f endsOf
  refine Ev.bind (isInterval_ev n l hl) ?_
  cases hs : isInt n l with
  | false => simp only [Bool.false_eq_true, if_false]; exact Ev.now _
  | true =>
    obtain ⟨n, rfl, o⟩ := isOrd_iff.1 (isInt_ord hs)
    simp only [if_true, Int.toNat_natCast]
    exact Ev.bind (ends_ev o.toRel) (Ev.now _)
section
variable {n : Nat} {l : List Int}
theorem endsL_f0 (i : Nat) (hi : i < n) : Lf (endsL n l) i = ((LV n l i : Nat) : Int) := by simp [Lf, endsL, hi]
theorem endsL_f1 (i : Nat) (hi : i < n) : Rt (endsL n l) i = rgt n l i n := by simp [Rt, endsL, hi]
end
end Go.Proofs.YtfjpilcmjabikaaDoor.M
namespace Go.Proofs.YtfjpilcmjabikaaDoor.M
open Go.RowKit Go.Proofs.YtfjpilcmjabikaaDoorW.PrintMore Go.Proofs.YtfjpilcmjabikaaDoorW.PrintLast Go.Proofs.YtfjpilcmjabikaaDoorW.PrintWords Go.Proofs.YtfjpilcmjabikaaDoor.P
set_option maxRecDepth 4000
def leaf22 (l : List Int) (z : List Nat) : Option (List Nat) := if hit22 l (z.getD 0 0) (z.getD 1 0) (z.getD 2 0) (z.getD 3 0) then some z else none
def first22 (n : Nat) (l : List Int) : Option (List Nat) := goL n (leaf22 l) 4 []
theorem hit22_iff {l : List Int} {a b c d : Nat} : hit22 l a b c d = true ↔ B l a b = true ∧ B l c d = true ∧ B l c b = false ∧ B l a d = false := by
  unfold hit22
  cases B l a b <;> cases B l c d <;> cases B l c b <;> cases B l a d <;> simp
theorem pat22 (a b : Nat) (ha : a < 4) (hb : b < 4) : B [2, 0, 8, 0] a b = (decide (a = 0 ∧ b = 1) || decide (a = 2 ∧ b = 3)) := by
  have h : ∀ a, a < 4 → ∀ b, b < 4 → B [2, 0, 8, 0] a b = (decide (a = 0 ∧ b = 1) || decide (a = 2 ∧ b = 3)) := by decide +kernel
  exact h a ha b hb
theorem good22 {n : Nat} {l : List Int} (o : Ord n l) (a b c d : Nat) : Good l [2, 0, 8, 0] [a, b, c, d] ↔ hit22 l a b c d = true := by
  rw [hit22_iff]
  constructor
  · intro g
    have h01 := (g 0 1 (by simp) (by simp)).2
    have h23 := (g 2 3 (by simp) (by simp)).2
    have h21 := (g 2 1 (by simp) (by simp)).2
    have h03 := (g 0 3 (by simp) (by simp)).2
    rw [pat22 _ _ (by omega) (by omega)] at h01 h23 h21 h03
    exact ⟨by simpa using h01, by simpa using h23, by simpa using h21, by simpa using h03⟩
  · rintro ⟨hab, hcd, hcb, had⟩
    have tr := o.trans
    have irr := o.irr
    have no : ∀ x y, (B l x y = true → False) → B l x y = false := fun x y h => by
      cases hc : B l x y with
      | false => rfl
      | true => exact (h hc).elim
    have F : ∀ {x y}, B l x y = false → B l x y = true → False := fun h1 h2 => by rw [h1] at h2; cases h2
    have asy : ∀ x y, B l x y = true → B l y x = false := fun x y h => no _ _ fun h' => F (irr x) (tr x y x h h')
    have hac : B l a c = false := no _ _ fun h => F had (tr _ _ _ h hcd)
    have hca : B l c a = false := no _ _ fun h => F hcb (tr _ _ _ h hab)
    have hda : B l d a = false := no _ _ fun h => F hcb (tr _ _ _ (tr _ _ _ hcd h) hab)
    have hbc : B l b c = false := no _ _ fun h => F had (tr _ _ _ (tr _ _ _ hab h) hcd)
    have hbd : B l b d = false := no _ _ fun h => F had (tr _ _ _ hab h)
    have hdb : B l d b = false := no _ _ fun h => F hcb (tr _ _ _ hcd h)
    have hba := asy _ _ hab
    have hdc := asy _ _ hcd
    have nab : a ≠ b := fun e => F (irr a) (by rw [← e] at hab; exact hab)
    have ncd : c ≠ d := fun e => F (irr c) (by rw [← e] at hcd; exact hcd)
    have nac : a ≠ c := fun e => F hcb (by rw [← e]; exact hab)
    have nad : a ≠ d := fun e => F hca (by rw [e]; exact hcd)
    have nbc : b ≠ c := fun e => F hac (by rw [← e]; exact hab)
    have nbd : b ≠ d := fun e => F had (by rw [← e]; exact hab)
    intro x y hx hy
    simp only [List.length_cons, List.length_nil] at hx hy
    rw [pat22 x y (by omega) (by omega)]
    have hx : x = 0 ∨ x = 1 ∨ x = 2 ∨ x = 3 := by omega
    have hy : y = 0 ∨ y = 1 ∨ y = 2 ∨ y = 3 := by omega
    have ia := irr a
    have ib := irr b
    have ic := irr c
    have id' := irr d
    have nba := Ne.symm nab
    have ndc := Ne.symm ncd
    have nca := Ne.symm nac
    have nda := Ne.symm nad
    have ncb := Ne.symm nbc
    have ndb := Ne.symm nbd
    rcases hx with rfl | rfl | rfl | rfl <;> rcases hy with rfl | rfl | rfl | rfl <;> simp [*]
theorem four_eq {z : List Nat} (h : z.length = 4) : z = [z.getD 0 0, z.getD 1 0, z.getD 2 0, z.getD 3 0] := by
  match z, h with
  | [a, b, c, d], _ => rfl
theorem findP_22 {n : Nat} {l : List Int} (o : Ord n l) : findP n l [2, 0, 8, 0] 4 [] = first22 n l := by
  refine (findP_leaf 4 (leaf22 l) ?_ ?_ 4 [] rfl).1 (good_nil _ _)
  · intro z hz g
    rw [four_eq hz] at g
    unfold leaf22
    rw [if_pos ((good22 o _ _ _ _).1 g)]
  · intro z hz g
    unfold leaf22
    rw [if_neg fun h => g (by rw [four_eq hz]; exact (good22 o _ _ _ _).2 h)]
def ints4 (z : Option (List Nat)) : List Int := match z with
  | some z => ints z
  | none => []
theorem hit_step {l : List Int} {a b c d : Nat} {z : List Nat} (h : leaf22 l [a, b, c, d] = some z) : hit22 l a b c d = true ∧ z = [a, b, c, d] := by
  unfold leaf22 at h
  split at h
  · rename_i h1
    injection h with h
    exact ⟨h1, h.symm⟩
  · cases h
theorem miss_step {l : List Int} {a b c d : Nat} (h : leaf22 l [a, b, c, d] = none) : hit22 l a b c d = false := by
  unfold leaf22 at h
  split at h
  · cases h
  · rename_i h1
    simpa using h1
theorem twoTwo_at {n : Nat} {l : List Int} (h : Rel n l) : Ev (fun k => impl_Order_twoTwo.f k (n : Int) l) (ints4 (first22 n l)) := by
  have hn := h.le
  unfold impl_Order_twoTwo.f
  have last : ∀ a b c d, a < n → b < n → c < n → d < n → ∀ r, (leaf22 l [a, b, c, d] = none ∧ Ev (fun k => impl_Order_twoTwo.l3 k (a : Int) (b : Int) (c : Int) (n : Int) (a : Int) (n : Int) (b : Int) (n : Int) (c : Int) (n : Int) ((d + 1 : Nat) : Int) (n : Int) l) r) ∨ (leaf22 l [a, b, c, d] ≠ none ∧ r = ints [a, b, c, d]) → Ev (fun k => impl_Order_twoTwo.l3 k (a : Int) (b : Int) (c : Int) (n : Int) (a : Int) (n : Int) (b : Int) (n : Int) (c : Int) (n : Int) (d : Int) (n : Int) l) r := by
    intro a b c d ha hb hc hd r H
    refine Ev.step (fun _ => rfl) ?_
    simp only [impl_Order_twoTwo.l3, if_pos (show (d : Int) < (n : Int) by omega), better_eq h _ _ _ ha (show b ≤ 62 by omega), better_eq h _ _ _ hc (show d ≤ 62 by omega), better_eq h _ _ _ hc (show b ≤ 62 by omega), better_eq h _ _ _ ha (show d ≤ 62 by omega), Option.bind_some, next64 d n hd (by omega)]
    rcases H with ⟨H, next⟩ | ⟨H, rfl⟩
    · have H := miss_step H
      unfold hit22 at H
      cases h1 : B l a b with
      | false => simp only [Bool.false_eq_true, if_false]; exact next
      | true =>
        cases h2 : B l c d with
        | false => simp only [Bool.false_eq_true, if_false, if_true]; exact next
        | true =>
          cases h3 : B l c b with
          | true => simp only [if_true]; exact next
          | false =>
            cases h4 : B l a d with
            | true => simp only [Bool.false_eq_true, if_false, if_true]; exact next
            | false => rw [h1, h2, h3, h4] at H; cases H
    · cases hc' : leaf22 l [a, b, c, d] with
      | none => exact absurd hc' H
      | some z =>
        obtain ⟨H, _⟩ := hit_step hc'
        obtain ⟨h1, h2, h3, h4⟩ := hit22_iff.1 H
        simp only [h1, h2, h3, h4, Bool.false_eq_true, if_false, if_true]
        exact Ev.now _
  have m3 : ∀ a b c r, a < n → b < n → c < n → goL n (leaf22 l) 1 [a, b, c] = none → Ev (fun k => impl_Order_twoTwo.l2 k (a : Int) (b : Int) (n : Int) (a : Int) (n : Int) (b : Int) (n : Int) ((c + 1 : Nat) : Int) (n : Int) l) r → Ev (fun k => impl_Order_twoTwo.l2 k (a : Int) (b : Int) (n : Int) (a : Int) (n : Int) (b : Int) (n : Int) (c : Int) (n : Int) l) r := by
    intro a b c r ha hb hc hm next
    refine Ev.step (fun _ => rfl) ?_
    simp only [impl_Order_twoTwo.l2, if_pos (show (c : Int) < (n : Int) by omega)]
    refine Ev.miss (fun d k => impl_Order_twoTwo.l3 k (a : Int) (b : Int) (c : Int) (n : Int) (a : Int) (n : Int) (b : Int) (n : Int) (c : Int) (n : Int) (d : Int) (n : Int) l) n (fun d => leaf22 l [a, b, c, d]) hm ?_ ?_
    · intro d r hd hf next
      exact last a b c d ha hb hc hd r (.inl ⟨hf, next⟩)
    · refine Ev.step (fun _ => rfl) ?_
      simp only [impl_Order_twoTwo.l3, if_neg (show ¬ (n : Int) < (n : Int) by omega), next64 c n hc (by omega)]
      exact next
  have m2 : ∀ a b r, a < n → b < n → goL n (leaf22 l) 2 [a, b] = none → Ev (fun k => impl_Order_twoTwo.l1 k (a : Int) (n : Int) (a : Int) (n : Int) ((b + 1 : Nat) : Int) (n : Int) l) r → Ev (fun k => impl_Order_twoTwo.l1 k (a : Int) (n : Int) (a : Int) (n : Int) (b : Int) (n : Int) l) r := by
    intro a b r ha hb hm next
    refine Ev.step (fun _ => rfl) ?_
    simp only [impl_Order_twoTwo.l1, if_pos (show (b : Int) < (n : Int) by omega)]
    refine Ev.miss (fun c k => impl_Order_twoTwo.l2 k (a : Int) (b : Int) (n : Int) (a : Int) (n : Int) (b : Int) (n : Int) (c : Int) (n : Int) l) n (fun c => goL n (leaf22 l) 1 [a, b, c]) hm (fun c r hc hf next => m3 a b c r ha hb hc hf next) ?_
    refine Ev.step (fun _ => rfl) ?_
    simp only [impl_Order_twoTwo.l2, if_neg (show ¬ (n : Int) < (n : Int) by omega), next64 b n hb (by omega)]
    exact next
  have m1 : ∀ a r, a < n → goL n (leaf22 l) 3 [a] = none → Ev (fun k => impl_Order_twoTwo.l0 k (n : Int) ((a + 1 : Nat) : Int) (n : Int) l) r → Ev (fun k => impl_Order_twoTwo.l0 k (n : Int) (a : Int) (n : Int) l) r := by
    intro a r ha hm next
    refine Ev.step (fun _ => rfl) ?_
    simp only [impl_Order_twoTwo.l0, if_pos (show (a : Int) < (n : Int) by omega)]
    refine Ev.miss (fun b k => impl_Order_twoTwo.l1 k (a : Int) (n : Int) (a : Int) (n : Int) (b : Int) (n : Int) l) n (fun b => goL n (leaf22 l) 2 [a, b]) hm (fun b r hb hf next => m2 a b r ha hb hf next) ?_
    refine Ev.step (fun _ => rfl) ?_
    simp only [impl_Order_twoTwo.l1, if_neg (show ¬ (n : Int) < (n : Int) by omega), next64 a n ha (by omega)]
    exact next
  cases hf : first22 n l with
  | none =>
    refine Ev.miss (fun a k => impl_Order_twoTwo.l0 k (n : Int) (a : Int) (n : Int) l) n (fun a => goL n (leaf22 l) 3 [a]) hf (fun a r ha hf next => m1 a r ha hf next) ?_
    refine Ev.step (fun _ => rfl) ?_
    simp only [impl_Order_twoTwo.l0, if_neg (show ¬ (n : Int) < (n : Int) by omega)]
    exact Ev.now _
  | some z =>
    refine Ev.hit (enc := ints) (fun a k => impl_Order_twoTwo.l0 k (n : Int) (a : Int) (n : Int) l) n (fun a => goL n (leaf22 l) 3 [a]) hf ?_ (fun a r ha hf next => m1 a r ha hf next)
    intro a z ha h1
    refine Ev.step (fun _ => rfl) ?_
    simp only [impl_Order_twoTwo.l0, if_pos (show (a : Int) < (n : Int) by omega)]
    refine Ev.hit (enc := ints) (fun b k => impl_Order_twoTwo.l1 k (a : Int) (n : Int) (a : Int) (n : Int) (b : Int) (n : Int) l) n (fun b => goL n (leaf22 l) 2 [a, b]) h1 ?_ (fun b r hb hf next => m2 a b r ha hb hf next)
    intro b z hb h2
    refine Ev.step (fun _ => rfl) ?_
    simp only [impl_Order_twoTwo.l1, if_pos (show (b : Int) < (n : Int) by omega)]
    refine Ev.hit (enc := ints) (fun c k => impl_Order_twoTwo.l2 k (a : Int) (b : Int) (n : Int) (a : Int) (n : Int) (b : Int) (n : Int) (c : Int) (n : Int) l) n (fun c => goL n (leaf22 l) 1 [a, b, c]) h2 ?_ (fun c r hc hf next => m3 a b c r ha hb hc hf next)
    intro c z hc h3
    refine Ev.step (fun _ => rfl) ?_
    simp only [impl_Order_twoTwo.l2, if_pos (show (c : Int) < (n : Int) by omega)]
    refine Ev.hit (enc := ints) (fun d k => impl_Order_twoTwo.l3 k (a : Int) (b : Int) (c : Int) (n : Int) (a : Int) (n : Int) (b : Int) (n : Int) (c : Int) (n : Int) (d : Int) (n : Int) l) n (fun d => leaf22 l [a, b, c, d]) h3 ?_ (fun d r hd hf next => last a b c d ha hb hc hd r (.inl ⟨hf, next⟩))
    intro d z hd h4
    obtain ⟨_, rfl⟩ := hit_step h4
    exact last a b c d ha hb hc hd _ (.inr ⟨by rw [h4]; simp, rfl⟩)
def found4 (z : Option (List Nat)) : List Int × Bool := match z with
  | some z => (ints z, true)
  | none => ([], false)
theorem ivTwoTwo_at {n : Nat} {l : List Int} (h : Rel n l) : Ev (fun k => spec_ivTwoTwo.f k (n : Int) l) (found4 (first22 n l)) := by
  have hn := h.le
  unfold spec_ivTwoTwo.f
  have last : ∀ a b c d, a < n → b < n → c < n → d < n → ∀ r, (leaf22 l [a, b, c, d] = none ∧ Ev (fun k => spec_ivTwoTwo.l3 k (a : Int) (b : Int) (c : Int) ((d + 1 : Nat) : Int) (n : Int) l) r) ∨ (leaf22 l [a, b, c, d] ≠ none ∧ r = (ints [a, b, c, d], true)) → Ev (fun k => spec_ivTwoTwo.l3 k (a : Int) (b : Int) (c : Int) (d : Int) (n : Int) l) r := by
    intro a b c d ha hb hc hd r H
    refine Ev.step (fun _ => rfl) ?_
    simp only [spec_ivTwoTwo.l3, if_pos (show (d : Int) < (n : Int) by omega), ivRefuses_eq h a b c d ha hb hc hd, Option.bind_some, next64 d n hd (by omega)]
    rcases H with ⟨H, next⟩ | ⟨H, rfl⟩
    · simp only [miss_step H, Bool.false_eq_true, if_false]
      exact next
    · cases hc' : leaf22 l [a, b, c, d] with
      | none => exact absurd hc' H
      | some z =>
        simp only [(hit_step hc').1, if_true]
        exact Ev.now _
  have m3 : ∀ a b c r, a < n → b < n → c < n → goL n (leaf22 l) 1 [a, b, c] = none → Ev (fun k => spec_ivTwoTwo.l2 k (a : Int) (b : Int) ((c + 1 : Nat) : Int) (n : Int) l) r → Ev (fun k => spec_ivTwoTwo.l2 k (a : Int) (b : Int) (c : Int) (n : Int) l) r := by
    intro a b c r ha hb hc hm next
    refine Ev.step (fun _ => rfl) ?_
    simp only [spec_ivTwoTwo.l2, if_pos (show (c : Int) < (n : Int) by omega)]
    refine Ev.miss (fun d k => spec_ivTwoTwo.l3 k (a : Int) (b : Int) (c : Int) (d : Int) (n : Int) l) n (fun d => leaf22 l [a, b, c, d]) hm ?_ ?_
    · intro d r hd hf next
      exact last a b c d ha hb hc hd r (.inl ⟨hf, next⟩)
    · refine Ev.step (fun _ => rfl) ?_
      simp only [spec_ivTwoTwo.l3, if_neg (show ¬ (n : Int) < (n : Int) by omega), next64 c n hc (by omega)]
      exact next
  have m2 : ∀ a b r, a < n → b < n → goL n (leaf22 l) 2 [a, b] = none → Ev (fun k => spec_ivTwoTwo.l1 k (a : Int) ((b + 1 : Nat) : Int) (n : Int) l) r → Ev (fun k => spec_ivTwoTwo.l1 k (a : Int) (b : Int) (n : Int) l) r := by
    intro a b r ha hb hm next
    refine Ev.step (fun _ => rfl) ?_
    simp only [spec_ivTwoTwo.l1, if_pos (show (b : Int) < (n : Int) by omega)]
    refine Ev.miss (fun c k => spec_ivTwoTwo.l2 k (a : Int) (b : Int) (c : Int) (n : Int) l) n (fun c => goL n (leaf22 l) 1 [a, b, c]) hm (fun c r hc hf next => m3 a b c r ha hb hc hf next) ?_
    refine Ev.step (fun _ => rfl) ?_
    simp only [spec_ivTwoTwo.l2, if_neg (show ¬ (n : Int) < (n : Int) by omega), next64 b n hb (by omega)]
    exact next
  have m1 : ∀ a r, a < n → goL n (leaf22 l) 3 [a] = none → Ev (fun k => spec_ivTwoTwo.l0 k ((a + 1 : Nat) : Int) (n : Int) l) r → Ev (fun k => spec_ivTwoTwo.l0 k (a : Int) (n : Int) l) r := by
    intro a r ha hm next
    refine Ev.step (fun _ => rfl) ?_
    simp only [spec_ivTwoTwo.l0, if_pos (show (a : Int) < (n : Int) by omega)]
    refine Ev.miss (fun b k => spec_ivTwoTwo.l1 k (a : Int) (b : Int) (n : Int) l) n (fun b => goL n (leaf22 l) 2 [a, b]) hm (fun b r hb hf next => m2 a b r ha hb hf next) ?_
    refine Ev.step (fun _ => rfl) ?_
    simp only [spec_ivTwoTwo.l1, if_neg (show ¬ (n : Int) < (n : Int) by omega), next64 a n ha (by omega)]
    exact next
  cases hf : first22 n l with
  | none =>
    refine Ev.miss (fun a k => spec_ivTwoTwo.l0 k (a : Int) (n : Int) l) n (fun a => goL n (leaf22 l) 3 [a]) hf (fun a r ha hf next => m1 a r ha hf next) ?_
    refine Ev.step (fun _ => rfl) ?_
    simp only [spec_ivTwoTwo.l0, if_neg (show ¬ (n : Int) < (n : Int) by omega)]
    exact Ev.now _
  | some z =>
    refine Ev.hit (enc := fun z => (ints z, true)) (fun a k => spec_ivTwoTwo.l0 k (a : Int) (n : Int) l) n (fun a => goL n (leaf22 l) 3 [a]) hf ?_ (fun a r ha hf next => m1 a r ha hf next)
    intro a z ha h1
    refine Ev.step (fun _ => rfl) ?_
    simp only [spec_ivTwoTwo.l0, if_pos (show (a : Int) < (n : Int) by omega)]
    refine Ev.hit (enc := fun z => (ints z, true)) (fun b k => spec_ivTwoTwo.l1 k (a : Int) (b : Int) (n : Int) l) n (fun b => goL n (leaf22 l) 2 [a, b]) h1 ?_ (fun b r hb hf next => m2 a b r ha hb hf next)
    intro b z hb h2
    refine Ev.step (fun _ => rfl) ?_
    simp only [spec_ivTwoTwo.l1, if_pos (show (b : Int) < (n : Int) by omega)]
    refine Ev.hit (enc := fun z => (ints z, true)) (fun c k => spec_ivTwoTwo.l2 k (a : Int) (b : Int) (c : Int) (n : Int) l) n (fun c => goL n (leaf22 l) 1 [a, b, c]) h2 ?_ (fun c r hc hf next => m3 a b c r ha hb hc hf next)
    intro c z hc h3
    refine Ev.step (fun _ => rfl) ?_
    simp only [spec_ivTwoTwo.l2, if_pos (show (c : Int) < (n : Int) by omega)]
    refine Ev.hit (enc := fun z => (ints z, true)) (fun d k => spec_ivTwoTwo.l3 k (a : Int) (b : Int) (c : Int) (d : Int) (n : Int) l) n (fun d => leaf22 l [a, b, c, d]) h3 ?_ (fun d r hd hf next => last a b c d ha hb hc hd r (.inl ⟨hf, next⟩))
    intro d z hd h4
    obtain ⟨_, rfl⟩ := hit_step h4
    exact last a b c d ha hb hc hd _ (.inr ⟨by rw [h4]; simp, rfl⟩)
end Go.Proofs.YtfjpilcmjabikaaDoor.M
namespace Go.Proofs.YtfjpilcmjabikaaDoor.P
open Go.RowKit Go.Proofs.YtfjpilcmjabikaaDoorW.PrintWords Go.Proofs.YtfjpilcmjabikaaDoorW.PrintLast Go.Proofs.YtfjpilcmjabikaaDoorW.PrintMore
open Bool renaming true → T, false → F
open List renaming setIfInBounds_toArray → L_, set_cons_zero → M_, set_cons_succ → N_, map_toArray → P_, map_cons → Q_, map_nil → R_, length_drop → S_, length_take → U_
open Aside0 renaming mk → A_
attribute [local go_sem] max2_int min2_int max_two min_two max_three min_three max_four min_four
set_option linter.unusedVariables false
set_option linter.unusedSimpArgs false
attribute [local go_sem] fldOrder_0 fldOrder_1
mutual
def impl_Order_closed.l0 : Nat → Int → Int → Int → List Int → Int → List Int → Option (Int × List Int)
 | 0,_,_,_,_,_,_=>none
 | k + 1,x13,x14,x259000,x259001,x264000,x264001=>if x14 < x13 then (impl_Order_closed.l1 k x14 x13 x14 x259000 0 x259000 x259001 x264000 x264001) else (some (x264000,x264001))
def impl_Order_closed.l1 : Nat → Int → Int → Int → Int → Int → Int → List Int → Int → List Int → Option (Int × List Int)
 | 0,_,_,_,_,_,_,_,_,_=>none
 | k + 1,x4,x13,x14,x18,x19,x259000,x259001,x264000,x264001=>if x19 < x18 then ((impl_Order_better.f x264000 x264001 x19 x4).bind fun t264=>(if t264 = true then (if 0 ≤ x19 then (if x19 < (x264001.length : Int) then (if 0 ≤ x4 then (if x4 < (x264001.length : Int) then (impl_Order_closed.l1 k x4 x13 x14 x18 (wrap64 (x19 + 1)) x259000 x259001 x264000 (x264001.set (x19 : Int).toNat (Go.bits .or .i64 (rd x264001 x19) (rd x264001 x4)))) else (none)) else (none)) else (none)) else (none)) else (impl_Order_closed.l1 k x4 x13 x14 x18 (wrap64 (x19 + 1)) x259000 x259001 x264000 x264001))) else (impl_Order_closed.l0 k x13 (wrap64 (x14 + 1)) x259000 x259001 x264000 x264001)
end
def impl_Order_closed.f (k : Nat) (a0_0 : Int) (l0_1 : List Int) : Option (Int × List Int) := (slices_Clone_int_int.f l0_1).bind fun t260 => (impl_Order_closed.l0 k a0_0 0 a0_0 l0_1 a0_0 t260)
end Go.Proofs.YtfjpilcmjabikaaDoor.P
namespace Go.Proofs.YtfjpilcmjabikaaDoor.P
open Go.RowKit Go.Proofs.YtfjpilcmjabikaaDoorW.PrintWords Go.Proofs.YtfjpilcmjabikaaDoorW.PrintLast Go.Proofs.YtfjpilcmjabikaaDoorW.PrintMore
open Bool renaming true → T, false → F
open List renaming setIfInBounds_toArray → L_, set_cons_zero → M_, set_cons_succ → N_, map_toArray → P_, map_cons → Q_, map_nil → R_, length_drop → S_, length_take → U_
open Aside0 renaming mk → A_
attribute [local go_sem] max2_int min2_int max_two min_two max_three min_three max_four min_four
set_option linter.unusedVariables false
set_option linter.unusedSimpArgs false
attribute [local go_sem] fldOrder_0 fldOrder_1
def impl_CloseRelation.f (k : Nat) (a0_0 : Int) (l0_1 : List Int) : Option (Int × List Int × Bool) := (impl_IsRelation.f k a0_0 l0_1).bind fun t270 => (if t270 = true then ((impl_Order_closed.f k a0_0 l0_1).bind fun bt271 => (some (bt271.1, bt271.2, true))) else (some (0, ([] : List Int), false)))
end Go.Proofs.YtfjpilcmjabikaaDoor.P
namespace Go.Proofs.YtfjpilcmjabikaaDoor.M
open Go.RowKit Go.Proofs.YtfjpilcmjabikaaDoorW.PrintMore Go.Proofs.YtfjpilcmjabikaaDoorW.PrintLast Go.Proofs.YtfjpilcmjabikaaDoorW.PrintWords Go.Proofs.YtfjpilcmjabikaaDoor.P
theorem clone_eq (l : List Int) (h : l.length < 17592186044416) : slices_Clone_int_int.f l = some l := by
  unfold slices_Clone_int_int.f
  simp [h]
end Go.Proofs.YtfjpilcmjabikaaDoor.M
namespace Go.Proofs.YtfjpilcmjabikaaDoor.M
open Go.RowKit Go.Proofs.YtfjpilcmjabikaaDoorW.PrintMore Go.Proofs.YtfjpilcmjabikaaDoorW.PrintLast Go.Proofs.YtfjpilcmjabikaaDoorW.PrintWords Go.Proofs.YtfjpilcmjabikaaDoor.P
set_option maxRecDepth 4000
theorem ints_at (l : List Nat) (q : Nat) (h : q < l.length) : rd (ints l) (q : Int) = ((l.getD q 0 : Nat) : Int) := by rw [rd_nat, ints_getD _ _ h]
theorem allB_succ (n : Nat) (p : Nat → Bool) : allB (n + 1) p = (allB n p && p n) := by simp [allB, List.range_succ, List.all_append]
theorem Contains_ev (z : List Nat) (x : Nat) (hz : z.length ≤ 1048576) : Ev (fun k => slices_Contains_int_int.f k (ints z) (x : Int)) (decide (x ∈ z)) := by
  unfold slices_Contains_int_int.f slices_Index_int_int.f
  rw [ints_length]
  have yes : ∀ i, i < z.length → z.getD i 0 = x → Ev (fun k => slices_Index_int_int.l0 k (ints z) (x : Int) (z.length : Int) (i : Int)) (i : Int) := by
    intro i hi hx
    refine Ev.step (fun _ => rfl) ?_
    simp only [slices_Index_int_int.l0, if_pos (show (i : Int) < (z.length : Int) by omega), if_pos (show (0 : Int) ≤ (i : Int) by omega), ints_length, ints_at z i hi, if_pos (show (x : Int) = ((z.getD i 0 : Nat) : Int) by omega)]
    exact Ev.now _
  have no : ∀ i r, i < z.length → z.getD i 0 ≠ x → Ev (fun k => slices_Index_int_int.l0 k (ints z) (x : Int) (z.length : Int) ((i + 1 : Nat) : Int)) r → Ev (fun k => slices_Index_int_int.l0 k (ints z) (x : Int) (z.length : Int) (i : Int)) r := by
    intro i r hi hx next
    refine Ev.step (fun _ => rfl) ?_
    simp only [slices_Index_int_int.l0, if_pos (show (i : Int) < (z.length : Int) by omega), if_pos (show (0 : Int) ≤ (i : Int) by omega), ints_length, ints_at z i hi, if_neg (show ¬ (x : Int) = ((z.getD i 0 : Nat) : Int) by omega), next64 i z.length hi (by omega)]
    exact next
  cases hf : (List.range z.length).findSome? fun i => if z.getD i 0 = x then some i else none with
  | none =>
    have hall := List.findSome?_eq_none_iff.1 hf
    have hn : x ∉ z := by
      intro hm
      obtain ⟨a, ha, e⟩ := mem_at hm
      have := hall a (by simpa using ha)
      rw [if_pos e] at this
      cases this
    have : Ev (fun k => slices_Index_int_int.l0 k (ints z) (x : Int) (z.length : Int) 0) (-1) := by
      refine Ev.miss (fun i k => slices_Index_int_int.l0 k (ints z) (x : Int) (z.length : Int) (i : Int)) z.length _ hf ?_ ?_
      · intro i r hi hm next
        refine no i r hi ?_ next
        intro e
        rw [if_pos e] at hm
        cases hm
      · refine Ev.step (fun _ => rfl) ?_
        simp only [slices_Index_int_int.l0, if_neg (show ¬ (z.length : Int) < (z.length : Int) by omega)]
        exact Ev.now _
    refine Ev.bind this ?_
    rw [decide_eq_false hn]
    exact Ev.now _
  | some j =>
    obtain ⟨i, hi, hj⟩ := List.exists_of_findSome?_eq_some hf
    have hi : i < z.length := by simpa using hi
    have hm : x ∈ z := by
      split at hj
      · rename_i e
        exact e ▸ at_mem i hi
      · cases hj
    have : Ev (fun k => slices_Index_int_int.l0 k (ints z) (x : Int) (z.length : Int) 0) (j : Int) := by
      refine Ev.hit (enc := fun i : Nat => (i : Int)) (fun i k => slices_Index_int_int.l0 k (ints z) (x : Int) (z.length : Int) (i : Int)) z.length _ hf ?_ ?_
      · intro i b hi hb
        split at hb
        · rename_i e
          injection hb with hb
          subst hb
          exact yes i hi e
        · cases hb
      · intro i r hi hm next
        refine no i r hi ?_ next
        intro e
        rw [if_pos e] at hm
        cases hm
    refine Ev.bind this ?_
    rw [decide_eq_true hm, decide_eq_true (show (j : Int) ≥ 0 by omega)]
    exact Ev.now _
theorem LeO_up {α : Type} (g : Nat → Option α) (h : ∀ k, LeO (g k) (g (k + 1))) (a m : Nat) : LeO (g a) (g (a + m)) := by
  induction m with
  | zero => exact LeO.refl _
  | succ m ih => intro r hr; exact h (a + m) r (ih r hr)
theorem Ev.uniform {α : Type} (G : Nat → Nat → Option α) (n : Nat) (P : Nat → Prop) (v : Nat → α) (h : ∀ x, x < n → P x → Ev (fun k => G k x) (v x)) : ∃ K, ∀ k, K ≤ k → ∀ x, x < n → P x → G k x = some (v x) := by
  induction n with
  | zero => exact ⟨0, fun k _ x hx _ => absurd hx (Nat.not_lt_zero _)⟩
  | succ n ih =>
    obtain ⟨K, hK⟩ := ih (fun x hx hp => h x (by omega) hp)
    by_cases hp : P n
    · obtain ⟨K', hK'⟩ := h n (by omega) hp
      refine ⟨max K K', fun k hk x hx hpx => ?_⟩
      by_cases e : x = n
      · subst e; exact hK' k (by omega)
      · exact hK k (by omega) x (by omega) hpx
    · refine ⟨K, fun k hk x hx hpx => ?_⟩
      by_cases e : x = n
      · subst e; exact absurd hpx hp
      · exact hK k hk x (by omega) hpx
def found (z : Option (List Nat)) : List Int := match z with
  | some z => ints z
  | none => []
theorem findP_ne {n : Nat} {l m : List Int} : ∀ d z r, findP n l m d z = some r → z ≠ [] → r ≠ [] := by
  intro d
  induction d with
  | zero => intro z r h hz; injection h with h; subst h; exact hz
  | succ d ih =>
    intro z r h hz
    unfold findP at h
    obtain ⟨x, _, h⟩ := List.exists_of_findSome?_eq_some h
    split at h
    · exact ih (z ++ [x]) r h (by simp)
    · cases h
theorem pattern1_ev {n s : Nat} {l m : List Int} (h : Rel n l) (hm : Rel s m) (a3 : Int) : ∀ d z, z.length + d = s → (∀ y ∈ z, y < n) → Ev (fun k => impl_Order_pattern_1.f k (ints z) (s : Int) m (n : Int) l a3) (found (findP n l m d z)) := by
  have hn := h.le
  have hs := hm.le
  intro d
  induction d with
  | zero =>
    intro z hz _
    refine Ev.step (fun _ => rfl) ?_
    simp only [impl_Order_pattern_1.f, impl_Order_pattern_1.g, ints_length, if_pos (show (z.length : Int) = (s : Int) by omega)]
    exact Ev.now _
  | succ d ih =>
    intro z hz hzn
    obtain ⟨K, hK⟩ := Ev.uniform (fun k x => impl_Order_pattern_1.f k (ints (z ++ [x])) (s : Int) m (n : Int) l a3) n (fun _ => True) (fun x => found (findP n l m d (z ++ [x]))) (fun x hx _ => ih (z ++ [x]) (by simp; omega) (fun y hy => by
      rcases List.mem_append.1 hy with hy | hy
      · exact hzn y hy
      · simp at hy; omega))
    have main : ∀ is : List Int → Option (List Int), (∀ x, x < n → is (ints (z ++ [x])) = some (found (findP n l m d (z ++ [x])))) → Ev (fun k => impl_Order_pattern_1.g is k (ints z) (s : Int) m (n : Int) l a3) (found (findP n l m (d + 1) z)) := by
      intro is his
      unfold impl_Order_pattern_1.g
      rw [ints_length]
      simp only [if_neg (show ¬ (z.length : Int) = (s : Int) by omega)]
      -- one element
      have one : ∀ x r, x < n → ((if fits l m z x then findP n l m d (z ++ [x]) else none) = none → Ev (fun k => impl_Order_pattern_1.l0 is k (ints z) (z.length : Int) (n : Int) ((x + 1 : Nat) : Int) (s : Int) m (n : Int) l) r) → (∀ b, (if fits l m z x then findP n l m d (z ++ [x]) else none) = some b → r = ints b) → Ev (fun k => impl_Order_pattern_1.l0 is k (ints z) (z.length : Int) (n : Int) (x : Int) (s : Int) m (n : Int) l) r := by
        intro x r hx miss hit
        have inner : ∀ b0, b0 = (!decide (x ∈ z) && (B l x x == B m z.length z.length)) → Ev (fun k => impl_Order_pattern_1.j1 is k (ints z) (z.length : Int) (x : Int) b0 (n : Int) (x : Int) (s : Int) m (n : Int) l) r := by
          intro b0 hb0
          refine Ev.step (fun _ => rfl) ?_
          simp only [impl_Order_pattern_1.j1, ints_length]
          have key := Ev.up (r := r) (fun b k => impl_Order_pattern_1.l1 is k (ints z) (z.length : Int) (x : Int) (b0 && allB b fun b => (B l x (z.getD b 0) == B m z.length b) && (B l (z.getD b 0) x == B m b z.length)) (n : Int) (x : Int) (ints z) (z.length : Int) (b : Int) (s : Int) m (n : Int) l) z.length ?_ ?_
          · have e : (b0 && allB 0 fun b => (B l x (z.getD b 0) == B m z.length b) && (B l (z.getD b 0) x == B m b z.length)) = b0 := by simp [allB]
            rw [e] at key
            exact key
          · intro b hb next
            have hzb := hzn _ (at_mem b hb)
            refine Ev.step (fun _ => rfl) ?_
            rw [allB_succ] at next
            simp only [impl_Order_pattern_1.l1, if_pos (show (b : Int) < (z.length : Int) by omega), if_pos (show (0 : Int) ≤ (b : Int) by omega), ints_length, ints_at z b hb, next64 b z.length hb (by omega),
              better_eq h _ _ _ hx (show z.getD b 0 ≤ 62 by omega), better_eq hm _ _ _ (show z.length < s by omega) (show b ≤ 62 by omega), better_eq h _ _ _ hzb (show x ≤ 62 by omega), better_eq hm _ _ _ (show b < s by omega) (show z.length ≤ 62 by omega), Option.bind_some]
            cases hacc : (b0 && allB b fun b => (B l x (z.getD b 0) == B m z.length b) && (B l (z.getD b 0) x == B m b z.length)) with
            | false =>
              rw [← Bool.and_assoc, hacc, Bool.false_and] at next
              simp only [Bool.false_eq_true, if_false]
              exact next
            | true =>
              rw [← Bool.and_assoc, hacc, Bool.true_and] at next
              simp only [if_true]
              cases hc : (B l x (z.getD b 0) == B m z.length b) with
              | false =>
                rw [hc, Bool.false_and] at next
                simp only [Bool.false_eq_true, if_false]
                exact next
              | true =>
                rw [hc, Bool.true_and] at next
                simp only [if_true]
                exact next
          · have hfit : (b0 && allB z.length fun b => (B l x (z.getD b 0) == B m z.length b) && (B l (z.getD b 0) x == B m b z.length)) = fits l m z x := by rw [hb0]; rfl
            rw [hfit]
            refine Ev.step (fun _ => rfl) ?_
            simp only [impl_Order_pattern_1.l1, if_neg (show ¬ (z.length : Int) < (z.length : Int) by omega)]
            cases hf : fits l m z x with
            | false =>
              simp only [Bool.false_eq_true, if_false, next64 x n hx (by omega)]
              exact miss (by rw [hf]; rfl)
            | true =>
              have e1 : ints z ++ [(x : Int)] = ints (z ++ [x]) := by simp [ints]
              simp only [if_true, clone_eq (ints z) (by rw [ints_length]; omega), Option.bind_some, ints_length, List.length_singleton, if_pos (show z.length + 1 < 17592186044416 by omega), e1, his x hx]
              cases hr : findP n l m d (z ++ [x]) with
              | none =>
                simp only [found, if_true, next64 x n hx (by omega)]
                exact miss (by rw [hf, if_pos rfl]; exact hr)
              | some b =>
                have hne := findP_ne d _ b hr (by simp)
                have hne' : ¬ ints b = [] := by
                  intro e
                  have := congrArg List.length e
                  rw [ints_length] at this
                  exact hne (List.eq_nil_of_length_eq_zero this)
                simp only [if_neg (show ¬ found (some b) = [] from hne')]
                rw [hit b (by rw [hf, if_pos rfl]; exact hr)]
                exact Ev.now _
        refine Ev.step (fun _ => rfl) ?_
        simp only [impl_Order_pattern_1.l0, if_pos (show (x : Int) < (n : Int) by omega)]
        refine Ev.bind (Contains_ev z x (by omega)) ?_
        by_cases hmem : x ∈ z
        · simp only [decide_eq_true hmem, if_true]
          exact inner false (by simp [hmem])
        · simp only [decide_eq_false hmem, Bool.false_eq_true, if_false, better_eq h _ _ _ hx (show x ≤ 62 by omega), better_eq hm _ _ _ (show z.length < s by omega) (show z.length ≤ 62 by omega), Option.bind_some]
          exact inner _ (by simp [hmem])
      have stop : Ev (fun k => impl_Order_pattern_1.l0 is k (ints z) (z.length : Int) (n : Int) (n : Int) (s : Int) m (n : Int) l) [] := by
        refine Ev.step (fun _ => rfl) ?_
        simp only [impl_Order_pattern_1.l0, if_neg (show ¬ (n : Int) < (n : Int) by omega)]
        exact Ev.now _
      cases hf : findP n l m (d + 1) z with
      | none =>
        exact Ev.miss (fun x k => impl_Order_pattern_1.l0 is k (ints z) (z.length : Int) (n : Int) (x : Int) (s : Int) m (n : Int) l) n _ hf (fun x r hx hm next => one x r hx (fun _ => next) (fun b hb => by rw [hm] at hb; cases hb)) stop
      | some r =>
        exact Ev.hit (enc := ints) (fun x k => impl_Order_pattern_1.l0 is k (ints z) (z.length : Int) (n : Int) (x : Int) (s : Int) m (n : Int) l) n _ hf (fun x b hx hb => one x _ hx (fun hn => by rw [hn] at hb; cases hb) (fun b' hb' => by rw [hb] at hb'; injection hb' with e; rw [e])) (fun x r hx hm next => one x r hx (fun _ => next) (fun b hb => by rw [hm] at hb; cases hb))
    obtain ⟨K', hK'⟩ := main (fun y => impl_Order_pattern_1.f K y (s : Int) m (n : Int) l a3) (fun x hx => hK K (Nat.le_refl _) x hx trivial)
    refine ⟨max K K' + 2, fun k hk => ?_⟩
    obtain ⟨e, rfl⟩ : ∃ e, k = e + 1 + 1 := ⟨k - 2, by omega⟩
    show impl_Order_pattern_1.g (fun y => impl_Order_pattern_1.f (e + 1) y (s : Int) m (n : Int) l a3) (e + 1) (ints z) (s : Int) m (n : Int) l a3 = _
    refine impl_Order_pattern_1.mono2 (is := fun y => impl_Order_pattern_1.f K y (s : Int) m (n : Int) l a3) (fun y => ?_) _ _ _ _ _ _ e _ (hK' e (by omega))
    have := LeO_up (fun k => impl_Order_pattern_1.f k y (s : Int) m (n : Int) l a3) (fun k => impl_Order_pattern_1.mono _ _ _ _ _ _ k) K (e + 1 - K)
    rw [show K + (e + 1 - K) = e + 1 from by omega] at this
    exact this
theorem pattern_ev {n s : Nat} {l m : List Int} (h : Rel n l) (hm : Rel s m) : Ev (fun k => impl_Order_pattern.f k (n : Int) l (s : Int) m) (found (findP n l m s [])) := by
  unfold impl_Order_pattern.f
  exact Ev.bind (pattern1_ev h hm 0 s [] (by simp) (fun y hy => by simp at hy)) (Ev.now _)
theorem found_nil {n s : Nat} {l m : List Int} : (found (findP n l m s []) != ([] : List Int) || ((s : Nat) : Int) == 0) = (findP n l m s []).isSome := by
  cases s with
  | zero => simp [findP]
  | succ s =>
    have e : (((s + 1 : Nat) : Int) == 0) = false := by rw [beq_eq_false_iff_ne]; omega
    rw [e, Bool.or_false]
    cases hf : findP n l m (s + 1) [] with
    | none => rfl
    | some r =>
      have hne : r ≠ [] := by
        unfold findP at hf
        obtain ⟨x, _, hf⟩ := List.exists_of_findSome?_eq_some hf
        split at hf
        · exact findP_ne s _ r hf (by simp)
        · cases hf
      have : found (some r) ≠ [] := by
        intro e
        have := congrArg List.length e
        simp only [found, ints_length] at this
        exact hne (List.eq_nil_of_length_eq_zero this)
      simp [this]
def patOf (n : Int) (l : List Int) (s : Int) (m : List Int) : List Int × Bool := if isRel n l && (isRel s m && decide (s ≤ 6)) then (found (findP n.toNat l m s.toNat []), (findP n.toNat l m s.toNat []).isSome) else ([], false)
theorem FindPattern_ev (n : Int) (l : List Int) (s : Int) (m : List Int) (hl : l.length ≤ 140737488355328) (hl' : m.length ≤ 140737488355328) : Ev (fun k => impl_FindPattern.f k n l s m) (patOf n l s m) := by
  unfold impl_FindPattern.f patOf
  refine Ev.bind (IsRelation_ev n l hl) ?_
  cases hr : isRel n l with
  | false => simp only [Bool.false_eq_true, if_false, Bool.false_and]; exact Ev.now _
  | true =>
    simp only [if_true, Bool.true_and]
    refine Ev.bind (IsRelation_ev s m hl') ?_
    cases hr' : isRel s m with
    | false => simp only [Bool.false_eq_true, if_false, Bool.false_and]; exact Ev.now _
    | true =>
      simp only [if_true, Bool.true_and]
      by_cases h6 : s > 6
      · simp only [if_pos h6, decide_eq_false (show ¬ s ≤ 6 by omega), Bool.false_eq_true, if_false]
        exact Ev.now _
      · simp only [if_neg h6, decide_eq_true (show s ≤ 6 by omega), if_true]
        obtain ⟨n, rfl, h⟩ := isRel_iff.1 hr
        obtain ⟨s, rfl, hm⟩ := isRel_iff.1 hr'
        refine Ev.bind (pattern_ev h hm) ?_
        rw [found_nil, Int.toNat_natCast, Int.toNat_natCast]
        exact Ev.now _
end Go.Proofs.YtfjpilcmjabikaaDoor.M
namespace Go.Proofs.YtfjpilcmjabikaaDoor.P
open Go.RowKit Go.Proofs.YtfjpilcmjabikaaDoorW.PrintWords Go.Proofs.YtfjpilcmjabikaaDoorW.PrintLast Go.Proofs.YtfjpilcmjabikaaDoorW.PrintMore
open Bool renaming true → T, false → F
open List renaming setIfInBounds_toArray → L_, set_cons_zero → M_, set_cons_succ → N_, map_toArray → P_, map_cons → Q_, map_nil → R_, length_drop → S_, length_take → U_
open Aside0 renaming mk → A_
attribute [local go_sem] max2_int min2_int max_two min_two max_three min_three max_four min_four
set_option linter.unusedVariables false
set_option linter.unusedSimpArgs false
attribute [local go_sem] fldOrder_0 fldOrder_1
def slices_Equal_int_int.l0 : Nat → List Int → List Int → Int → Int → Option (Bool)
 | 0,_,_,_,_=>none
 | k + 1,x0,x1,x12,x13=>if x13 < x12 then (if 0 ≤ x13 then (if x13 < (x0.length : Int) then (if x13 < (x1.length : Int) then (if (rd x0 x13) = (rd x1 x13) then (slices_Equal_int_int.l0 k x0 x1 x12 (wrap64 (x13 + 1))) else (some false)) else (none)) else (none)) else (none)) else (some true)
def slices_Equal_int_int.f (k : Nat) (l0 : List Int) (l1 : List Int) : Option (Bool) := if (l0.length : Int) = (l1.length : Int) then (slices_Equal_int_int.l0 k l0 l1 (l0.length : Int) 0) else (some false)
end Go.Proofs.YtfjpilcmjabikaaDoor.P
namespace Go.Proofs.YtfjpilcmjabikaaDoor.M
open Go.RowKit Go.Proofs.YtfjpilcmjabikaaDoorW.PrintMore Go.Proofs.YtfjpilcmjabikaaDoorW.PrintLast Go.Proofs.YtfjpilcmjabikaaDoorW.PrintWords Go.Proofs.YtfjpilcmjabikaaDoor.P
set_option maxRecDepth 4000
section
variable {n : Nat} {l : List Int}
def mag (n : Nat) (l : List Int) : Nat := (dif (levelsL n (mir n l))).length
end
def magOf (n : Int) (l : List Int) : Int × Bool := if isInt n l then (((mag n.toNat l : Nat) : Int), true) else (0, false)
theorem levelsL_length (n : Nat) (m : List Int) : (levelsL n m).length = n := by simp [levelsL]
theorem MagnitudeOf_ev (n : Int) (l : List Int) (hl : l.length ≤ 140737488355328) : Ev (fun k => impl_MagnitudeOf.f k n l) (magOf n l) := by
  unfold impl_MagnitudeOf.f magOf
  refine Ev.bind (isInterval_ev n l hl) ?_
  cases hs : isInt n l with
  | false => simp only [Bool.false_eq_true, if_false]; exact Ev.now _
  | true =>
    obtain ⟨n, rfl, o⟩ := isOrd_iff.1 (isInt_ord hs)
    have hn := o.le
    simp only [if_true, Int.toNat_natCast]
    unfold impl_Order_magnitude.f
    refine Ev.bind (a := ((mag n l : Nat) : Int)) (Ev.bind (levels_ev o.toRel) ?_) (Ev.now _)
    simp only [different_eq _ (show (levelsL n (mir n l)).length ≤ 1048576 by rw [levelsL_length]; omega), Option.bind_some]
    exact Ev.now _
def lowOf (n : Int) (l : List Int) : List Int × Bool := if isInt n l then (levelsL n.toNat (mir n.toNat l), true) else ([], false)
theorem LowerLevels_ev (n : Int) (l : List Int) (hl : l.length ≤ 140737488355328) : Ev (fun k => impl_LowerLevels.f k n l) (lowOf n l) := by
  unfold impl_LowerLevels.f lowOf
  refine Ev.bind (isInterval_ev n l hl) ?_
  cases hs : isInt n l with
  | false => simp only [Bool.false_eq_true, if_false]; exact Ev.now _
  | true =>
    obtain ⟨n, rfl, o⟩ := isOrd_iff.1 (isInt_ord hs)
    simp only [if_true, Int.toNat_natCast]
    exact Ev.bind (levels_ev o.toRel) (Ev.now _)
end Go.Proofs.YtfjpilcmjabikaaDoor.M
namespace Go.Proofs.YtfjpilcmjabikaaDoor.M
open Go.RowKit Go.Proofs.YtfjpilcmjabikaaDoorW.PrintMore Go.Proofs.YtfjpilcmjabikaaDoorW.PrintLast Go.Proofs.YtfjpilcmjabikaaDoorW.PrintWords Go.Proofs.YtfjpilcmjabikaaDoor.P
set_option maxRecDepth 4000
section
variable {n : Nat} {l : List Int}
def inAt (n : Nat) (l : List Int) (t i : Nat) : Bool := decide (((LV n l i : Nat) : Int) ≤ (t : Int) ∧ (t : Int) ≤ rgt n l i n)
def setAt (n : Nat) (l : List Int) (t : Nat) : Nat := setOf n (inAt n l t)
def setsL (n : Nat) (l : List Int) : List Int := (List.range (mag n l)).map fun t => ((setAt n l t : Nat) : Int)
theorem mag_le (h : Rel n l) : mag n l ≤ 10 := by
  unfold mag
  have := dif_length_le (levelsL n (mir n l))
  have := h.le
  rw [levelsL_length] at *
  omega
theorem magnitude_ev (h : Rel n l) : Ev (fun k => impl_Order_magnitude.f k (n : Int) l) ((mag n l : Nat) : Int) := by
  have hn := h.le
  unfold impl_Order_magnitude.f
  refine Ev.bind (levels_ev h) ?_
  simp only [different_eq _ (show (levelsL n (mir n l)).length ≤ 1048576 by rw [levelsL_length]; omega), Option.bind_some]
  exact Ev.now _
theorem two62 (i : Nat) (h : i ≤ 62) : (2 : Nat) ^ i < 9223372036854775808 := Nat.lt_of_le_of_lt (Nat.pow_le_pow_right (by decide) h) (by decide)
theorem setsAlong_ev (h : Rel n l) : Ev (fun k => impl_Order_setsAlong.f k (n : Int) l) (setsL n l) := by
  have hn := h.le
  have hm := mag_le h
  have hEl := endsL_length n l
  unfold impl_Order_setsAlong.f
  refine Ev.bind (ends_ev h) ?_
  refine Ev.bind (magnitude_ev h) ?_
  refine Ev.up (fun t k => impl_Order_setsAlong.l0 k ((List.range t).map fun t => ((setAt n l t : Nat) : Int)) (endsL n l) ((mag n l : Nat) : Int) (t : Int)) (mag n l) ?_ ?_
  · intro t ht next
    refine Ev.step (fun _ => rfl) ?_
    simp only [impl_Order_setsAlong.l0, if_pos (show (t : Int) < ((mag n l : Nat) : Int) by omega), hEl]
    refine Ev.up (fun i k => impl_Order_setsAlong.l1 k ((List.range t).map fun t => ((setAt n l t : Nat) : Int)) (endsL n l) (t : Int) ((setOf i (inAt n l t) : Nat) : Int) ((mag n l : Nat) : Int) (t : Int) (endsL n l) (n : Int) (i : Int)) n ?_ ?_
    · intro i hi next
      refine Ev.step (fun _ => rfl) ?_
      rw [setOf_bit_or] at next
      have h2 := two62 i (by omega)
      have h1 := setOf_62 i (inAt n l t) (by omega)
      simp only [impl_Order_setsAlong.l1, if_pos (show (i : Int) < (n : Int) by omega), if_pos (show (0 : Int) ≤ (i : Int) by omega), hEl, rd_iv0, rd_iv1, endsL_f0 i hi, endsL_f1 i hi, within_eq, Option.bind_some]
      rw [show decide (((LV n l i : Nat) : Int) ≤ (t : Int) ∧ (t : Int) ≤ rgt n l i n) = inAt n l t i from rfl]
      cases hb : inAt n l t i with
      | true =>
        rw [hb, if_pos rfl] at next
        simp only [if_true, shl1 i (by omega), or_i64 _ _ h1 h2, next64 i n hi (by omega)]
        exact next
      | false =>
        rw [hb, if_neg (by simp)] at next
        simp only [Bool.false_eq_true, if_false, next64 i n hi (by omega)]
        exact next
    · refine Ev.step (fun _ => rfl) ?_
      simp only [impl_Order_setsAlong.l1, if_neg (show ¬ (n : Int) < (n : Int) by omega), List.length_map, List.length_range, if_pos (show t < 17592186044416 by omega), next64 t (mag n l) ht (by omega)]
      simpa [List.range_succ, setAt] using next
  · refine Ev.step (fun _ => rfl) ?_
    simp only [impl_Order_setsAlong.l0, if_neg (show ¬ ((mag n l : Nat) : Int) < ((mag n l : Nat) : Int) by omega)]
    exact Ev.now _
end
def alongOf (n : Int) (l : List Int) : List Int × Bool := if isInt n l then (setsL n.toNat l, true) else ([], false)
theorem SetsAlong_ev (n : Int) (l : List Int) (hl : l.length ≤ 140737488355328) : Ev (fun k => impl_SetsAlong.f k n l) (alongOf n l) := by
  unfold impl_SetsAlong.f alongOf
  refine Ev.bind (isInterval_ev n l hl) ?_
  cases hs : isInt n l with
  | false => simp only [Bool.false_eq_true, if_false]; exact Ev.now _
  | true =>
    obtain ⟨n, rfl, o⟩ := isOrd_iff.1 (isInt_ord hs)
    simp only [if_true, Int.toNat_natCast]
    exact Ev.bind (setsAlong_ev o.toRel) (Ev.now _)
end Go.Proofs.YtfjpilcmjabikaaDoor.M
namespace Go.Proofs.YtfjpilcmjabikaaDoor.Pure
open Go.RowKit Go.Proofs.YtfjpilcmjabikaaDoorW.PrintMore Go.Proofs.YtfjpilcmjabikaaDoorW.PrintLast Go.Proofs.YtfjpilcmjabikaaDoorW.PrintWords Go.Proofs.YtfjpilcmjabikaaDoor.P Go.Proofs.YtfjpilcmjabikaaDoor.M
set_option maxRecDepth 4000
theorem first22_some {n : Nat} {l : List Int} (o : Ord n l) {z : List Nat} (h : first22 n l = some z) : ∃ a b c d, z = [a, b, c, d] ∧ a < n ∧ b < n ∧ c < n ∧ d < n ∧ hit22 l a b c d = true := by
  rw [← findP_22 o] at h
  obtain ⟨g, hl, hn⟩ := findP_some 4 [] z h (fun x hx => by simp at hx) (good_nil _ _)
  have hl : z.length = 4 := by simpa using hl
  have e := four_eq hl
  refine ⟨_, _, _, _, e, ?_, ?_, ?_, ?_, ?_⟩
  · exact hn _ (at_mem 0 (by omega))
  · exact hn _ (at_mem 1 (by omega))
  · exact hn _ (at_mem 2 (by omega))
  · exact hn _ (at_mem 3 (by omega))
  · rw [e] at g
    exact (good22 o _ _ _ _).1 g
theorem first22_no {n : Nat} {l : List Int} (o : Ord n l) : no22 n l = !(first22 n l).isSome := by
  cases hf : first22 n l with
  | none =>
    rw [show (!(none : Option (List Nat)).isSome) = true from rfl, no22_iff]
    intro a ha b hb c hc d hd
    cases hh : hit22 l a b c d with
    | false => rfl
    | true =>
      rw [← findP_22 o] at hf
      refine absurd hf (findP_complete 4 [] [a, b, c, d] ((good22 o a b c d).2 hh) rfl ?_)
      intro x hx
      simp only [List.mem_cons, List.not_mem_nil, or_false] at hx
      rcases hx with rfl | rfl | rfl | rfl <;> assumption
  | some z =>
    obtain ⟨a, b, c, d, _, ha, hb, hc, hd, hh⟩ := first22_some o hf
    cases hn : no22 n l with
    | false => rfl
    | true =>
      have := no22_iff.1 hn a ha b hb c hc d hd
      rw [hh] at this
      cases this
theorem found4_ne {n : Nat} {l : List Int} (o : Ord n l) : (ints4 (first22 n l) != ([] : List Int)) = (first22 n l).isSome := by
  cases hf : first22 n l with
  | none => rfl
  | some z =>
    obtain ⟨a, b, c, d, rfl, _⟩ := first22_some o hf
    rfl
def fourOf (n : Int) (l : List Int) : List Int × Bool := if isOrd n l then (ints4 (first22 n.toNat l), (first22 n.toNat l).isSome) else ([], false)
theorem TwoTwoOf_ev (n : Int) (l : List Int) (hl : l.length ≤ 140737488355328) : Ev (fun k => impl_TwoTwoOf.f k n l) (fourOf n l) := by
  unfold impl_TwoTwoOf.f fourOf
  refine Ev.bind (IsOrder_ev n l hl) ?_
  cases ho : isOrd n l with
  | false => simp only [Bool.false_eq_true, if_false]; exact Ev.now _
  | true =>
    obtain ⟨n, rfl, o⟩ := isOrd_iff.1 ho
    simp only [if_true, Int.toNat_natCast]
    refine Ev.bind (twoTwo_at o.toRel) ?_
    rw [found4_ne o]
    exact Ev.now _
theorem sTwoTwoOf_ev (n : Int) (l : List Int) (hl : l.length ≤ 140737488355328) : Ev (fun k => spec_TwoTwoOf.f k n l) (fourOf n l) := by
  unfold spec_TwoTwoOf.f fourOf
  refine Ev.bind (orGood_ev n l hl) ?_
  cases ho : isOrd n l with
  | false => simp only [Bool.false_eq_true, if_false]; exact Ev.now _
  | true =>
    obtain ⟨n, rfl, o⟩ := isOrd_iff.1 ho
    simp only [if_true, Int.toNat_natCast]
    refine Ev.bind (ivTwoTwo_at o.toRel) (Ev.to (Ev.now _) ?_)
    cases first22 n l <;> rfl
theorem IsIntervalOrder_ev (n : Int) (l : List Int) (hl : l.length ≤ 140737488355328) : Ev (fun k => impl_IsIntervalOrder.f k n l) (isInt n l, isOrd n l) := by
  unfold impl_IsIntervalOrder.f
  refine Ev.bind (IsOrder_ev n l hl) ?_
  cases ho : isOrd n l with
  | false =>
    simp only [Bool.false_eq_true, if_false]
    have : isInt n l = false := by unfold isInt; rw [ho, Bool.false_and]
    rw [this]
    exact Ev.now _
  | true =>
    simp only [if_true]
    exact Ev.bind (isInterval_ev n l hl) (Ev.now _)
theorem FnFourRefuse : P.laws_FnFourRefuse.Pure := by
  intro l0 l1 _ hl0 hb _ hl1 _
  have hB := by_wf hb
  obtain ⟨⟨n, l, p', h'⟩, hd, hlen, _, _⟩ := anyOrder_tot hB 0 0 7 (by omega) (by omega) (by omega) (by omega)
  simp only at hlen
  refine Ev.rounds (g := fun k => laws_FnFourRefuse.f k l0 l1) ?_
  unfold laws_FnFourRefuse.f
  obtain ⟨b, hbig⟩ : ∃ b, laws_big.f l0 l1 = some b := by
    unfold laws_big.f
    split
    · exact ⟨_, rfl⟩
    · exact ⟨_, rfl⟩
  rw [hbig]
  simp only [Option.bind_some]
  cases b with
  | true => simp only [if_true]; exact Ev.now _
  | false =>
  simp only [Bool.false_eq_true, if_false]
  refine Ev.bind (a := (n, l)) ?_ ?_
  · unfold spec_DrawTwoTwoOf.f
    exact Ev.bind hd (Ev.now _)
  refine Ev.bind (TwoTwoOf_ev n l (by omega)) ?_
  refine Ev.bind (sTwoTwoOf_ev n l (by omega)) ?_
  have hfl : (fourOf n l).1.length ≤ 4 := by
    unfold fourOf
    cases ho : isOrd n l with
    | false => simp
    | true =>
      obtain ⟨n, rfl, o⟩ := isOrd_iff.1 ho
      simp only [if_true, Int.toNat_natCast]
      cases hf : first22 n l with
      | none => simp [ints4]
      | some z =>
        obtain ⟨a, b, c, d, rfl, _⟩ := first22_some o hf
        simp [ints4, ints]
  simp only [bne_self_eq_false, Bool.false_eq_true, if_false]
  refine Ev.bind (pSame_ev _ _ (by omega)) ?_
  simp only [decide_true, Bool.not_true]
  refine Ev.step (fun _ => rfl) ?_
  simp only [laws_FnFourRefuse.j0, Bool.false_eq_true, if_false]
  refine Ev.bind (IsIntervalOrder_ev n l (by omega)) ?_
  refine Ev.bind (LowerLevels_ev n l (by omega)) ?_
  refine Ev.bind (EndsOf_ev n l (by omega)) ?_
  refine Ev.bind (MagnitudeOf_ev n l (by omega)) ?_
  refine Ev.bind (SetsAlong_ev n l (by omega)) ?_
  refine Ev.bind (IsOrder_ev n l (by omega)) ?_
  have f1 : (lowOf n l).2 = isInt n l := by unfold lowOf; cases isInt n l <;> rfl
  have f2 : (endsOf n l).2 = isInt n l := by unfold endsOf; cases isInt n l <;> rfl
  have f3 : (magOf n l).2 = isInt n l := by unfold magOf; cases isInt n l <;> rfl
  have f4 : (alongOf n l).2 = isInt n l := by unfold alongOf; cases isInt n l <;> rfl
  simp only [f1, f2, f3, f4, bne_self_eq_false, Bool.false_eq_true, if_false]
  cases ho : isOrd n l with
  | false =>
    have e1 : fourOf n l = ([], false) := by unfold fourOf; rw [ho]; rfl
    rw [e1]
    simp only [Bool.false_eq_true, if_false, bne_self_eq_false]
    refine Ev.step (fun _ => rfl) ?_
    simp only [laws_FnFourRefuse.j1, Bool.false_eq_true, if_false]
    exact Ev.now _
  | true =>
    obtain ⟨n, rfl, o⟩ := isOrd_iff.1 ho
    have hn := o.le
    have e1 : fourOf (n : Int) l = (ints4 (first22 n l), (first22 n l).isSome) := by unfold fourOf; rw [ho, Int.toNat_natCast]; rfl
    have e2 : isInt (n : Int) l = !(first22 n l).isSome := by unfold isInt; rw [ho, Bool.true_and, Int.toNat_natCast]; exact first22_no o
    rw [e1, e2]
    simp only [if_true, Bool.not_not, bne_self_eq_false, Bool.false_eq_true, if_false]
    refine Ev.step (fun _ => rfl) ?_
    simp only [laws_FnFourRefuse.j1, Bool.false_eq_true, if_false]
    cases hf : first22 n l with
    | none =>
      simp only [Option.isSome_none, Bool.false_eq_true, if_false]
      exact Ev.now _
    | some z =>
      obtain ⟨a, b, c, d, rfl, ha, hb', hc, hd', hh⟩ := first22_some o hf
      obtain ⟨h1, h2, h3, h4⟩ := hit22_iff.1 hh
      have el : ints4 (some [a, b, c, d]) = [(a : Int), (b : Int), (c : Int), (d : Int)] := rfl
      have r0 : rd [(a : Int), (b : Int), (c : Int), (d : Int)] 0 = (a : Int) := rfl
      have r1 : rd [(a : Int), (b : Int), (c : Int), (d : Int)] 1 = (b : Int) := rfl
      have r2 : rd [(a : Int), (b : Int), (c : Int), (d : Int)] 2 = (c : Int) := rfl
      have r3 : rd [(a : Int), (b : Int), (c : Int), (d : Int)] 3 = (d : Int) := rfl
      have b1 : (row l a).testBit b = true := h1
      have b2 : (row l c).testBit d = true := h2
      have b3 : (row l c).testBit b = false := h3
      have b4 : (row l a).testBit d = false := h4
      have e4 : ((([(a : Int), (b : Int), (c : Int), (d : Int)] : List Int).length : Nat) : Int) = 4 := rfl
      simp only [el, Option.isSome_some, if_true, e4, if_pos (show (0 : Int) < 4 by omega), if_pos (show (1 : Int) < 4 by omega), if_pos (show (2 : Int) < 4 by omega), if_pos (show (3 : Int) < 4 by omega), r0, r1, r2, r3, if_pos (show (0 : Int) ≤ (a : Int) by omega), if_pos (show (0 : Int) ≤ (c : Int) by omega), o.len, if_pos (show (a : Int) < (n : Int) by omega), if_pos (show (c : Int) < (n : Int) by omega), o.toRel.rd,
        pIn_eq _ b (show b ≤ 64 by omega), pIn_eq _ d (show d ≤ 64 by omega), Option.bind_some, b1, b2, b3, b4, Bool.false_eq_true, if_false]
      refine Ev.step (fun _ => rfl) ?_
      simp only [laws_FnFourRefuse.j2, Bool.false_eq_true, if_false]
      refine Ev.bind (FindPattern_ev (n : Int) l 4 [2, 0, 8, 0] (by omega) (by simp)) ?_
      have e5 : patOf (n : Int) l 4 [2, 0, 8, 0] = ([(a : Int), (b : Int), (c : Int), (d : Int)], true) := by
        unfold patOf
        rw [rel_is o.toRel, show isRel 4 [2, 0, 8, 0] = true from by decide, Int.toNat_natCast, show (4 : Int).toNat = 4 from rfl, findP_22 o, hf]
        rfl
      rw [e5]
      simp only [if_true]
      refine Ev.bind (pSame_ev _ _ (by simp)) ?_
      simp only [decide_true]
      exact Ev.now _
end Go.Proofs.YtfjpilcmjabikaaDoor.Pure
namespace Go.Proofs.YtfjpilcmjabikaaDoorW.PrintWords
open Go.ChangeShapes Go.WideShapes
theorem sized_ints {H : Type} {enc : TypeId × Value → H} {P : Program} {W : World} {base : Nat} {spare : Nat → Bool} {held : Bool} {t e : TypeId} {k : IntKind} {a : Option Addr} {len cap : Nat} {d : DataW H} {ps : List MemPlace} {ts : List TypeId} {ds : List (DataW H)} {j : Nat}
    (hsz : (DataW.weightsEach P ts ds).all (· ≤ reachBytes) = true) (ht : ts[j]? = some t) (hd : ds[j]? = some d) (hu : P.underlying t = some (.slice e)) (he : P.underlying e = some (.int k)) (hc : P.cellsOf e = 1) {B : Nat} (hB : P.bytesOf e = B)
    (h : DataW.Trod enc P W base spare held t (.slice a len cap) d ps) : len * B ≤ 140737488351232 := by
  obtain ⟨fuel, hf⟩ := h
  rcases open_ints hu he hc hf with ⟨hcs, _⟩ | ⟨x, l, c, zs, hcs, _, hl, _, hz, hx, _, _⟩
  · simp [Value.cells] at hcs
    obtain ⟨rfl, rfl, rfl⟩ := hcs
    simp
  · simp [Value.cells] at hcs
    obtain ⟨rfl, rfl, rfl⟩ := hcs
    obtain ⟨hx, _⟩ := Prod.mk.inj hx
    subst hx
    have z := sized_slice hsz ht hd hu
    rw [hB] at z
    have hl2 : len ≤ zs.length := by
      rw [hz]
      split
      · exact hl
      · exact Nat.le_refl _
    have h1 : (lits (H := H) k (zs.take len)).length + (lits (H := H) k (zs.drop len)).length = zs.length := by
      simp [lits]
      omega
    rw [h1] at z
    exact Nat.le_trans (Nat.mul_le_mul_right _ hl2) z
end Go.Proofs.YtfjpilcmjabikaaDoorW.PrintWords
namespace Go.Proofs.YtfjpilcmjabikaaDoor.fnFourRefuse
open Go.ChangeShapes Go.WideShapes Go.ChangeAt Go.RowKit
open Go.ChangeMaps (open_string shut_string)
open Go.Proofs.YtfjpilcmjabikaaDoorW
set_option linter.unusedVariables false
theorem own : ownKnob Tryd.prog.godebug = none := by kernel_rfl
theorem laidOut : laidOutB Tryd.prog = true := by kernel_rfl
def IsRow (k : IntKind) (w : World) (a : Option Addr) (len cap : Nat) (zs : List Int) : Prop :=
  (a = none ∧ len = 0 ∧ cap = 0 ∧ zs = []) ∨
  ∃ x, a = some x ∧ len ≤ cap ∧ cap ≤ maxLen ∧ zs.length = cap ∧ (∀ i, i < zs.length → w.cell? (x.add i) = some (.int k (zs.getD i 0))) ∧ ∀ n ∈ zs, (Lit.int k n).wf = true
theorem gT : Tryd.prog.globalNamed "math/bits.deBruijn64tab" = some 1 := by kernel_rfl
theorem tT : (Tryd.prog.globals[1]?).map (·.type) = some 122 := by kernel_rfl
theorem cT : Tryd.prog.cellsOf 122 = 64 := by kernel_rfl
theorem cE : Tryd.prog.cellsOf 5 = 1 := by kernel_rfl
def tab64 : List Int := Lib.deBruijn64tab.map fun (z : Nat) => (z : Int)
theorem tab64_at : ∀ j, j < 64 → tab64.getD j 0 = ((Lib.deBruijn64tab.getD j 0 : Nat) : Int) := by decide +kernel
theorem table {W : World} (h : laidMetH Tryd.prog Rows.fnFourRefuseRow.laid W) : P.TabOK W := by
  rw [MakeChecks.laidMetH_plain _ _ _ (by kernel_rfl)] at h
  have h1 : laidMet Tryd.prog [("math/bits.deBruijn32tab", Rows.laid_math_bits_deBruijn32tab), ("math/bits.deBruijn64tab", Lib.tabData .u8 tab64)] W := h
  have h0 := laidMet.tail (h1)
  have ht := Lib.tabIs_of_head gT tT Tryd.underlying122 Tryd.underlying5 cE cT h0
  intro j hj
  rw [ht.cell gT j (by exact hj), tab64_at j hj]
theorem door_met (os : Os) (args : Array Value) : laidMetH Tryd.prog Rows.fnFourRefuseRow.laid ((World.doorLaid Tryd.prog 400 os).forCall (fun _ _ => 0) ⟨#[], args, []⟩).memory :=
  laidMetH_of_parts3 (fuel := 8) (laidMet_of_run' 8 (by kernel_rfl) (by kernel_rfl)) (by kernel_rfl) (by kernel_rfl)
set_option maxRecDepth 100000 in
theorem lifted (os : Os) (started : os.Started) (H : Type) (enc : TypeId × Value → H) :
    ReturnsInHanded {} Tryd.checked os 8 .any (fun w args => (Rows.fnFourRefuseSpec.pre enc Tryd.prog Tryd.f8 [] false w args ∧ laidMetH Tryd.prog Rows.fnFourRefuseRow.laid w) ∧ sizedMet enc Tryd.prog Tryd.f8 (OpenSpec.ofChange Rows.fnFourRefuseSpec) false w args)
      (Rows.fnFourRefuseSpec.post enc Tryd.prog Tryd.f8 false true false false) := by
  refine returnsInHanded_of_change_and (C := Tryd.checked) (X := fun w _ => laidMetH Tryd.prog Rows.fnFourRefuseRow.laid w) (fun _ _ _ hh h => h.of_heap hh) own started (by kernel_rfl) Tryd.func8
    (ChangeSpec.witness_shaped (enc := enc) (C := Tryd.checked) (os := os) (X := fun w _ => laidMetH Tryd.prog Rows.fnFourRefuseRow.laid w) false (World.doorLaid Tryd.prog 400 os) #[.slice none 0 0, .slice none 0 0] 8 rfl (World.shaped_of_RefB (by kernel_rfl) (by kernel_rfl)) (by kernel_rfl) (by kernel_rfl) (by kernel_rfl) (door_met os _)) ?_
  intro W base args ds gs before hval0 hW hcnd hsz0 hL _
  have hsz : (DataW.weightsEach Tryd.prog (Tryd.f8.params.toList ++ Rows.fnFourRefuseSpec.plain.varTypes Tryd.prog) (ds ++ gs)).all (· ≤ reachBytes) = true := hsz0
  have hval : ∀ (j : Nat) t v, Tryd.f8.params[j]? = some t → args[j]? = some v → Value.okWide Tryd.prog W .any base t v := hval0
  have hW' := hW
  obtain ⟨p, q, hA0, hV, rfl, hfz, hnd⟩ := hW
  have hA : DataW.TrodAll enc Tryd.prog W 0 (fun _ => true) true Tryd.f8.params.toList args.toList ds p := hA0
  rw [Tryd.params8] at hA hval hsz
  obtain ⟨v0, vs0, d0, ds0, p0, q0, hargs, rfl, rfl, h0, r0⟩ := trodAll_cons hA
  obtain ⟨v1, vs1, d1, ds1, p1, q1, rfl, rfl, rfl, h1, r1⟩ := trodAll_cons r0
  obtain ⟨rfl, rfl, rfl⟩ := trodAll_nil r1
  obtain rfl : args = #[v0, v1] := by cases args; simp_all
  obtain ⟨rfl, rfl⟩ := trodVars_none hV
  obtain ⟨a0, len0, cap0, rfl⟩ := okWide_slice Tryd.underlying22 (hval 0 22 v0 rfl rfl)
  have k0 := h0
  have lt0 : ∀ x ∈ p0, x.block < W.heap.size := by obtain ⟨m, hm⟩ := k0; exact DataW.trod_lt m _ _ _ hm
  obtain ⟨z0, w0⟩ : ∃ zs, IsRow .u8 W a0 len0 cap0 zs := by
    obtain ⟨fuel, hf⟩ := h0
    rcases open_ints Tryd.underlying22 Tryd.underlying5 (by kernel_rfl) hf with ⟨hcs, _⟩ | ⟨x, l, c, zs, hcs, _, hl, hm, hz, _, hcell, hwz⟩
    · simp [Value.cells] at hcs
      obtain ⟨rfl, rfl, rfl⟩ := hcs
      exact ⟨[], .inl ⟨rfl, rfl, rfl, rfl⟩⟩
    · simp [Value.cells] at hcs
      obtain ⟨rfl, rfl, rfl⟩ := hcs
      exact ⟨zs, .inr ⟨_, rfl, hl, hm, by simpa using hz, hcell, hwz⟩⟩
  have y0 : len0 * 1 ≤ 140737488351232 := PrintWords.sized_ints hsz (j := 0) (t := 22) rfl rfl Tryd.underlying22 Tryd.underlying5 (by kernel_rfl) (by kernel_rfl) h0
  obtain ⟨a1, len1, cap1, rfl⟩ := okWide_slice Tryd.underlying22 (hval 1 22 v1 rfl rfl)
  have k1 := h1
  have lt1 : ∀ x ∈ p1, x.block < W.heap.size := by obtain ⟨m, hm⟩ := k1; exact DataW.trod_lt m _ _ _ hm
  obtain ⟨z1, w1⟩ : ∃ zs, IsRow .u8 W a1 len1 cap1 zs := by
    obtain ⟨fuel, hf⟩ := h1
    rcases open_ints Tryd.underlying22 Tryd.underlying5 (by kernel_rfl) hf with ⟨hcs, _⟩ | ⟨x, l, c, zs, hcs, _, hl, hm, hz, _, hcell, hwz⟩
    · simp [Value.cells] at hcs
      obtain ⟨rfl, rfl, rfl⟩ := hcs
      exact ⟨[], .inl ⟨rfl, rfl, rfl, rfl⟩⟩
    · simp [Value.cells] at hcs
      obtain ⟨rfl, rfl, rfl⟩ := hcs
      exact ⟨zs, .inr ⟨_, rfl, hl, hm, by simpa using hz, hcell, hwz⟩⟩
  have y1 : len1 * 1 ≤ 140737488351232 := PrintWords.sized_ints hsz (j := 1) (t := 22) rfl rfl Tryd.underlying22 Tryd.underlying5 (by kernel_rfl) (by kernel_rfl) h1
  clear hA0 hval0 hsz0 hsz
  refine (P.laws_FnFourRefuse.walk Pure.FnFourRefuse a0 len0 cap0 z0 a1 len1 cap1 z1 W w0 y0 w1 y1 (table hL)).mono fun e W' ⟨he, bel⟩ => ?_
  subst he
  exact ⟨_, rfl, _, _, _, [], _, [], hW', trodAll_mk1 (shut_bool Tryd.underlying4 _), (trodAll_cons_mk (Below.trod laidOut (by kernel_rfl) (of_decide_eq_true (by kernel_rfl)) k0 bel lt0) (trodAll_cons_mk (Below.trod laidOut (by kernel_rfl) (of_decide_eq_true (by kernel_rfl)) k1 bel lt1) trodAll_mk0)), rfl, bel.frame _, fun h => by cases h⟩
set_option maxHeartbeats 8000000 in
theorem named_ : Tryd.pinned.checked.prog.funcNamed "loop.example/g01106/laws.FnFourRefuse" = some 8 := by kernel_rfl
set_option maxHeartbeats 8000000 in
theorem joined_ : joinedFacts Tryd.pinned.checked.prog 8 Tryd.f8 Rows.fnFourRefuseSpec Rows.fnFourRefuseRow = true := by
  unfold joinedFacts
  repeat' (with_reducible refine (Bool.and_eq_true_iff).2 ⟨?_, ?_⟩)
  all_goals (as_aux_lemma => kernel_rfl)
theorem over : Rows.fnFourRefuseRow.holds Tryd.pinned (OpenSpec.ofChange Rows.fnFourRefuseSpec) :=
  OpenClaim.holds_of_wide 8 Tryd.f8 rfl rfl rfl rfl rfl rfl rfl ⟨rfl, rfl, rfl, rfl, rfl⟩ rfl rfl rfl rfl rfl named_ Tryd.func8 joined_
    (of_decide_eq_true (by kernel_rfl)) (by unfold Func.isWrapper; first | (rw [if_pos (by decide +kernel)]; kernel_rfl) | (rw [if_neg (by decide +kernel)]; exact ⟨rfl, rfl⟩))
    (fun os started H enc _ => lifted os started H enc)
set_option maxHeartbeats 8000000 in
theorem main_ : Tryd.pinned.checked.prog.mainIs = some (true, "cbc73dea4075ecc5178c1d86ac8785e85380fe9f1c42682a40ca8edfcba2920b".toList) := by kernel_rfl
set_option maxHeartbeats 8000000 in
theorem looks_ : false = Tryd.pinned.checked.prog.looks [] := by kernel_rfl
theorem stand_ : ([22].all fun u => !Tryd.prog.wantsStandIn u) = true := by kernel_rfl
set_option maxHeartbeats 8000000 in
theorem goes_ : false = Rows.fnFourRefuseRow.goesBy Tryd.pinned.checked.prog := by kernel_rfl
theorem wf_ : Rows.fnFourRefuseRow.wfByText (OpenSpec.ofChange Rows.fnFourRefuseSpec) = true := by kernel_rfl
theorem proved : Rows.FnFourRefuseCardSaid :=
  Claim7.holds_tied_plain_at .later [] [.data, .data] true (true, "cbc73dea4075ecc5178c1d86ac8785e85380fe9f1c42682a40ca8edfcba2920b") false
    over (fun _ h => by cases h) wf_ (fun _ h => by cases h) fnFourRefuse_row_tie rfl ⟨rfl, rfl⟩ main_ rfl
    (fun f fn hf hfn => by
      obtain rfl : f = 8 := Option.some.inj (named_.symm.trans hf) |>.symm
      obtain rfl : fn = Tryd.f8 := (Option.some.inj (Tryd.func8.symm.trans hfn)).symm
      exact ⟨looks_, fun j t ht => by
        rw [Tryd.params8] at ht
        have hm : t ∈ [22] := by have hq := Array.mem_of_getElem? ht; simp at hq; simp [hq]
        exact (show Tryd.prog.wantsStandIn t = false by simpa using List.all_eq_true.1 stand_ t hm)⟩)
    goes_
end Go.Proofs.YtfjpilcmjabikaaDoor.fnFourRefuse
namespace Go.Proofs.YtfjpilcmjabikaaDoor
theorem fnFourRefuse_holds : Rows.FnFourRefuseCardSaid := fnFourRefuse.proved
end Go.Proofs.YtfjpilcmjabikaaDoor
