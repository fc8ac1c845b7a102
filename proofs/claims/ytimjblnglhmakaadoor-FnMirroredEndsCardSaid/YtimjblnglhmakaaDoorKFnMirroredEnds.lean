/- The law FnMirroredEnds holds at every input. Written by wip/pack.py: the kit's printed words that are used, the functions' walks as wip/gen.py prints them, and hand proofs. -/
import Derived.Test.YtimjblnglhmakaaDoorKFnMirroredEnds5
import Derived.Lib.SlicesCompact
import Derived.SizedLaws
import Derived.ChangeSlices
import Derived.Test.YtimjblnglhmakaaDoorRows
import Derived.Test.YtimjblnglhmakaaDoorCards
import Derived.Test.YtimjblnglhmakaaDoorTie
import Derived.WalkKit
import Derived.ProofKit
import Derived.OpenShut
import Derived.ShutString
import Derived.ChangeOld
import Derived.Below
import Derived.LaidMore
import Derived.Stop.Joined
import Derived.Stop.LaidErr
import Derived.Lib.LaidTab
import Derived.Lib.SmallJoins
import Derived.SevenTiedAt
namespace Go.Proofs.YtimjblnglhmakaaDoor.M
open Go.RowKit Go.Proofs.YtimjblnglhmakaaDoorW.PrintMore Go.Proofs.YtimjblnglhmakaaDoorW.PrintLast Go.Proofs.YtimjblnglhmakaaDoorW.PrintWords Go.Proofs.YtimjblnglhmakaaDoor.P
def Tot {α : Type} (g : Nat → Option α) (Q : α → Prop) : Prop := ∃ r, Ev g r ∧ Q r
section
variable {α β : Type} {Q : α → Prop} {R : β → Prop}
theorem Tot.now {r : α} (h : Q r) : Tot (fun _ => some r) Q := ⟨r, Ev.now r, h⟩
theorem Tot.step {g f : Nat → Option α} (h : ∀ k, g (k + 1) = f k) (k : Tot f Q) : Tot g Q := by obtain ⟨r, k, hq⟩ := k; exact ⟨r, Ev.step h k, hq⟩
theorem Tot.bind {g : Nat → Option α} {f : Nat → α → Option β} (h : Tot g Q) (k : ∀ a, Q a → Tot (fun n => f n a) R) : Tot (fun n => (g n).bind (f n)) R := by
  obtain ⟨a, h, hq⟩ := h
  obtain ⟨r, k, hr⟩ := k a hq
  exact ⟨r, Ev.bind h k, hr⟩
theorem Tot.ebind {g : Nat → Option α} {f : Nat → α → Option β} {a : α} (h : Ev g a) (k : Tot (fun n => f n a) R) : Tot (fun n => (g n).bind (f n)) R := by
  obtain ⟨r, k, hr⟩ := k
  exact ⟨r, Ev.bind h k, hr⟩
theorem Tot.obind {x : Option α} {f : Nat → α → Option β} (h : ∃ r, x = some r ∧ Q r) (k : ∀ a, Q a → Tot (fun n => f n a) R) : Tot (fun n => x.bind (f n)) R := by
  obtain ⟨a, rfl, hq⟩ := h
  exact k a hq
theorem Tot.ite {c : Prop} [Decidable c] {f g : Nat → Option α} (h1 : c → Tot f Q) (h2 : ¬ c → Tot g Q) : Tot (fun k => if c then f k else g k) Q := by
  by_cases h : c
  · simp only [if_pos h]; exact h1 h
  · simp only [if_neg h]; exact h2 h
theorem Tot.up {S : Type} (G : Nat → S → Nat → Option α) (n : Nat) (Inv : Nat → S → Prop)
    (step : ∀ i s, i < n → Inv i s → (∀ s', Inv (i + 1) s' → Tot (G (i + 1) s') Q) → Tot (G i s) Q) (stop : ∀ s, Inv n s → Tot (G n s) Q) (i : Nat) (hi : i ≤ n) (s : S) (hs : Inv i s) : Tot (G i s) Q := by
  obtain ⟨d, rfl⟩ : ∃ d, n = i + d := ⟨n - i, by omega⟩
  clear hi
  induction d generalizing i s with
  | zero => exact stop s hs
  | succ d ih =>
    refine step i s (by omega) hs fun s' h' => ?_
    exact ih (i + 1) s' h' (fun a b ha => step a b (by omega)) (by rw [show i + 1 + d = i + (d + 1) by omega]; exact stop)
end
def By (l : List Int) : Prop := ∀ x ∈ l, 0 ≤ x ∧ x ≤ 255
theorem by_wf {l : List Int} (h : ∀ x ∈ l, (Lit.int .u8 x).wf = true) : By l := by
  intro x hx
  have := h x hx
  simp [Lit.wf, IntKind.min, IntKind.max, IntKind.signed, IntKind.bits] at this
  omega
theorem By.rd {l : List Int} (h : By l) (i : Nat) : 0 ≤ rd l (i : Int) ∧ rd l (i : Int) ≤ 255 := by
  rw [rd_nat]
  by_cases hi : i < l.length
  · have := h l[i] (List.getElem_mem hi)
    simpa [hi] using this
  · simp [Nat.not_lt.1 hi]
theorem and_255 (x : Int) : 0 ≤ Go.bits .and .u64 x 255 ∧ Go.bits .and .u64 x 255 ≤ 255 := by
  have e : Go.bits .and .u64 x 255 = IntKind.u64.wrap (((BitVec.ofInt 64 x).toNat &&& 255 : Nat) : Int) := by
    show IntKind.u64.wrap ((BitVec.ofInt 64 x &&& BitVec.ofInt 64 255).toNat : Int) = _
    rw [BitVec.toNat_and]; rfl
  have h : (BitVec.ofInt 64 x).toNat &&& 255 ≤ 255 := Nat.and_le_right
  rw [e, u64_small _ (by omega)]
  omega
theorem wrap64_in (x : Int) (h0 : -9223372036854775808 ≤ x) (h1 : x ≤ 9223372036854775807) : wrap64 x = x := by unfold wrap64; omega
theorem next_ok {l : List Int} (hb : By l) (p h : Int) (hp : 0 ≤ p) (hp2 : p ≤ 1000000) : ∃ r, Abj.f l p h = some r ∧ 0 ≤ r.1 ∧ r.1 ≤ 255 ∧ r.2.1 = p + 1 := by
  unfold Abj.f
  obtain ⟨i, rfl⟩ := Int.eq_ofNat_of_zero_le hp
  have h1 := hb.rd i
  rw [wrap64_in ((i : Int) + 1) (by omega) (by omega)]
  have ha := fun x => and_255 x
  by_cases h0 : (i : Int) < (l.length : Int)
  · rw [if_pos h0, if_pos hp, if_pos (show (i : Int) + 1 ≤ (l.length : Int) by omega)]
    exact ⟨_, rfl, by rw [wrap64_in _ (by omega) (by omega)]; omega, by rw [wrap64_in _ (by omega) (by omega)]; omega, rfl⟩
  · rw [if_neg h0, if_neg (show ¬ (i : Int) + 1 ≤ (l.length : Int) by omega)]
    refine ⟨_, rfl, ?_, ?_, rfl⟩
    · have := ha ((IntKind.u64.wrap (IntKind.u64.wrap (IntKind.u64.wrap (h * 6364136223846793005)) + 1442695040888963407)) / 1099511627776)
      rw [wrap64_in _ (by omega) (by omega)]; exact this.1
    · have := ha ((IntKind.u64.wrap (IntKind.u64.wrap (IntKind.u64.wrap (h * 6364136223846793005)) + 1442695040888963407)) / 1099511627776)
      rw [wrap64_in _ (by omega) (by omega)]; exact this.2
theorem pick_ok {l : List Int} (hb : By l) (p h a : Int) (hp : 0 ≤ p) (hp2 : p ≤ 999990) : ∃ r, Aaf.f l p h a = some r ∧ 0 ≤ r.1 ∧ (r.1 = 0 ∨ r.1 < a) ∧ p ≤ r.2.1 ∧ r.2.1 ≤ p + 2 := by
  unfold Aaf.f
  by_cases h1 : a ≤ 1
  · rw [if_pos h1]; exact ⟨_, rfl, by simp, by simp, by simp, by simp; omega⟩
  · rw [if_neg h1]
    obtain ⟨⟨v, p1, h'⟩, e, a1, a2, a3⟩ := next_ok hb p h hp (by omega)
    simp only at a1 a2 a3
    subst a3
    rw [e, Option.bind_some]
    by_cases h2 : a > 200
    · rw [if_pos h2]
      obtain ⟨⟨v2, p2, h''⟩, e2, b1, b2, b3⟩ := next_ok hb (p + 1) h' (by omega) (by omega)
      simp only at b1 b2 b3
      subst b3
      rw [e2, Option.bind_some, if_neg (by omega)]
      refine ⟨_, rfl, ?_, ?_, by simp; omega, by simp; omega⟩
      all_goals
        simp only
        rw [wrap64_in (v * 256) (by omega) (by omega), wrap64_in (v * 256 + v2) (by omega) (by omega), Int.tmod_eq_emod_of_nonneg (by omega)]
      · exact Int.emod_nonneg _ (by omega)
      · exact .inr (Int.emod_lt_of_pos _ (by omega))
    · rw [if_neg h2, if_neg (by omega)]
      refine ⟨_, rfl, ?_, ?_, by simp only; omega, by simp only; omega⟩
      all_goals
        simp only
        rw [Int.tmod_eq_emod_of_nonneg (by omega)]
      · exact Int.emod_nonneg _ (by omega)
      · exact .inr (Int.emod_lt_of_pos _ (by omega))
theorem one_ok {l : List Int} (hb : By l) (p h a : Int) (hp : 0 ≤ p) (hp2 : p ≤ 999990) : ∃ r, Aa8.f l p h a = some r ∧ p ≤ r.2.1 ∧ r.2.1 ≤ p + 2 := by
  obtain ⟨r, e, h1⟩ := pick_ok hb p h a hp hp2
  unfold Aa8.f
  rw [e]
  exact ⟨_, rfl, h1.2.2.1, h1.2.2.2⟩
theorem among_ok {l : List Int} (hb : By l) (p h : Int) (z : List Int) (hz : z ≠ []) (hp : 0 ≤ p) (hp2 : p ≤ 999990) : ∃ r, Aav.f l p h z = some r ∧ r.1 ∈ z ∧ p ≤ r.2.1 ∧ r.2.1 ≤ p + 2 := by
  obtain ⟨r, e, h1, h2, h3⟩ := pick_ok hb p h (z.length : Int) hp hp2
  have hz' := List.length_pos_iff.2 hz
  unfold Aav.f
  rw [e, Option.bind_some, if_pos h1, if_pos (by omega)]
  refine ⟨_, rfl, ?_, h3⟩
  obtain ⟨i, hi⟩ := Int.eq_ofNat_of_zero_le h1
  simp only [hi]
  rw [rd_get z i (by omega)]
  exact List.getElem_mem _
theorem orHas_ok (s j : Int) (hj : 0 ≤ j) : ∃ r, Aap.f s j = some r ∧ True := by unfold Aap.f; rw [if_pos hj]; exact ⟨_, rfl, trivial⟩
theorem l1Own_eq (l : List Int) (h : l.length < 17592186044416) : Ab0.f l = some l := by
  unfold Ab0.f
  simp [h]
theorem close_tot (n : Int) (l : List Int) (hl : l.length ≤ 140737488355328) : Tot (fun k => Aae.f k n l) (fun r => 0 ≤ r.1 ∧ (r.1 = 0 ∨ r.1 = n) ∧ r.1 ≤ 10 ∧ (r.2.1.length : Int) = r.1 ∧ r.2.2 = isRel n l) := by
  unfold Aae.f
  refine Tot.ebind (orRelation_ev n l hl) ?_
  cases hr : isRel n l with
  | false => simp only [Bool.false_eq_true, if_false]; exact Tot.now (by simp)
  | true =>
    obtain ⟨m, rfl, h⟩ := isRel_iff.1 hr
    have hlen := h.len
    have h10 := h.le
    simp only [if_true, l1Own_eq l (by omega), Option.bind_some, hlen]
    refine Tot.up (fun i s k => Aae.l0 k (m : Int) (i : Int) (m : Int) s) m (fun _ s => s.length = m) ?_ ?_ 0 (Nat.zero_le _) l hlen
    · intro i s hi hs next
      refine Tot.step (fun _ => rfl) ?_
      simp only [Aae.l0, if_pos (show (i : Int) < (m : Int) by omega), hs]
      refine Tot.up (fun j s k => Aae.l1 k (i : Int) (m : Int) (i : Int) (m : Int) (j : Int) (m : Int) s) m (fun _ s => s.length = m) ?_ ?_ 0 (Nat.zero_le _) s hs
      · intro j s hj hs next
        refine Tot.step (fun _ => rfl) ?_
        simp only [Aae.l1, hs, if_pos (show (j : Int) < (m : Int) by omega), if_pos (show (i : Int) < (m : Int) by omega), if_pos (show (0 : Int) ≤ (i : Int) by omega), if_pos (show (0 : Int) ≤ (j : Int) by omega), next64 j m hj (by omega)]
        refine Tot.obind (orHas_ok _ _ (by omega)) fun b _ => ?_
        refine Tot.ite (fun _ => ?_) (fun _ => ?_)
        · exact next _ (by simpa using hs)
        · exact next _ hs
      · intro s hs
        refine Tot.step (fun _ => rfl) ?_
        simp only [Aae.l1, if_neg (show ¬ (m : Int) < (m : Int) by omega), next64 i m hi (by omega)]
        exact next _ hs
    · intro s hs
      refine Tot.step (fun _ => rfl) ?_
      simp only [Aae.l0, if_neg (show ¬ (m : Int) < (m : Int) by omega)]
      exact Tot.now (by simp [hs]; omega)
theorem order_tot {l : List Int} (hb : By l) (p h a : Int) (hp : 0 ≤ p) (hp2 : p ≤ 999000) (ha0 : 0 ≤ a) (ha : a ≤ 10) :
    Tot (fun k => Aac.f k l p h a) (fun r => 0 ≤ r.1 ∧ r.1 ≤ a ∧ (r.2.1.length : Int) = r.1 ∧ p ≤ r.2.2.1 ∧ r.2.2.1 ≤ p + 400) := by
  unfold Aac.f
  rw [wrap64_in (a + 1) (by omega) (by omega)]
  refine Tot.obind (pick_ok hb p h (a + 1) hp (by omega)) ?_
  rintro ⟨n, p1, h1⟩ ⟨n0, n1, n2, n3⟩
  simp only at n0 n1 n2 n3
  simp only [if_pos n0]
  obtain ⟨m, rfl⟩ := Int.eq_ofNat_of_zero_le n0
  have hm : m ≤ 10 := by omega
  rw [Int.toNat_natCast]
  simp only [if_pos (show m ≤ 35184372088832 by omega)]
  refine Tot.obind (pick_ok hb p1 h1 3 (by omega) (by omega)) ?_
  rintro ⟨kd, p2, h2⟩ ⟨k0, k1, k2, k3⟩
  simp only at k0 k1 k2 k3
  refine Tot.up (fun i (s : List Int × List Int × Int × Int) k => Aac.l0 k (m : Int) kd s.1 s.2.1 (i : Int) l s.2.2.1 s.2.2.2 (m : Int) (List.replicate m 0)) m
    (fun i s => s.1.length = i ∧ s.2.1.length = i ∧ p ≤ s.2.2.1 ∧ s.2.2.1 ≤ p + 4 + 4 * (i : Int)) ?_ ?_ 0 (Nat.zero_le _) ([], [], p2, h2) ⟨rfl, rfl, by simp only; omega, by simp only; omega⟩
  · rintro i ⟨x8, x9, p3, h3⟩ hi ⟨s1, s2, s3, s4⟩ next
    simp only at s1 s2 s3 s4
    refine Tot.step (fun _ => rfl) ?_
    simp only [Aac.l0, if_pos (show (i : Int) < (m : Int) by omega), s1, s2, if_pos (show i < 17592186044416 by omega), next64 i m hi (by omega)]
    refine Tot.obind (pick_ok hb p3 h3 8 (by omega) (by omega)) ?_
    rintro ⟨v, p4, h4⟩ ⟨v0, v1, v2, v3⟩
    simp only at v0 v1 v2 v3
    simp only [Option.bind_some]
    refine Tot.ite (fun _ => ?_) (fun _ => ?_)
    · refine Tot.obind (pick_ok hb p4 h4 4 (by omega) (by omega)) ?_
      rintro ⟨v', p5, h5⟩ ⟨u0, u1, u2, u3⟩
      simp only at u0 u1 u2 u3
      exact next (_, _, _, _) ⟨by simp [s1], by simp [s2], by simp only; omega, by simp only; omega⟩
    · exact next (_, _, _, _) ⟨by simp [s1], by simp [s2], by simp only; omega, by simp only; omega⟩
  · rintro ⟨x8, x9, p3, h3⟩ ⟨s1, s2, s3, s4⟩
    simp only at s1 s2 s3 s4
    refine Tot.step (fun _ => rfl) ?_
    simp only [Aac.l0, if_neg (show ¬ (m : Int) < (m : Int) by omega)]
    refine Tot.up (fun i (s : Int × Int × List Int) k => Aac.l1 k (m : Int) kd x8 x9 (i : Int) l s.1 s.2.1 (m : Int) s.2.2) m
      (fun i s => p ≤ s.1 ∧ s.1 ≤ p + 44 + 22 * (i : Int) ∧ s.2.2.length = m) ?_ ?_ 0 (Nat.zero_le _) (p3, h3, List.replicate m 0) ⟨by simp only; omega, by simp only; omega, by simp⟩
    · rintro i ⟨p4, h4, z⟩ hi ⟨t1, t2, t3⟩ next
      simp only at t1 t2 t3
      refine Tot.step (fun _ => rfl) ?_
      simp only [Aac.l1, if_pos (show (i : Int) < (m : Int) by omega)]
      refine Tot.up (fun j (s : Int × Int × List Int) k => Aac.l2 k (m : Int) kd x8 x9 (i : Int) (j : Int) l s.1 s.2.1 (m : Int) s.2.2) m
        (fun j s => p ≤ s.1 ∧ s.1 ≤ p + 44 + 22 * (i : Int) + 2 * (j : Int) ∧ s.2.2.length = m) ?_ ?_ 0 (Nat.zero_le _) (p4, h4, z) ⟨by simp only; omega, by simp only; omega, t3⟩
      · rintro j ⟨p5, h5, z⟩ hj ⟨q1, q2, q3⟩ next
        simp only at q1 q2 q3
        have hone : ∀ v p' h' , p ≤ p' → p' ≤ p5 + 2 → Tot (fun k => Aac.l2 k (m : Int) kd x8 x9 (i : Int) ((j + 1 : Nat) : Int) l p' h' (m : Int) (z.set i v)) _ := fun v p' h' a1 a2 => next (p', h', z.set i v) ⟨a1, by simp only; omega, by simpa using q3⟩
        have hno : ∀ p' h' , p ≤ p' → p' ≤ p5 + 2 → Tot (fun k => Aac.l2 k (m : Int) kd x8 x9 (i : Int) ((j + 1 : Nat) : Int) l p' h' (m : Int) z) _ := fun p' h' a1 a2 => next (p', h', z) ⟨a1, by simp only; omega, q3⟩
        refine Tot.step (fun _ => rfl) ?_
        simp only [Aac.l2, if_pos (show (j : Int) < (m : Int) by omega), s1, s2, q3, if_pos (show (i : Int) < (m : Int) by omega), if_pos (show (0 : Int) ≤ (i : Int) by omega), if_pos (show (0 : Int) ≤ (j : Int) by omega), next64 j m hj (by omega), Int.toNat_natCast]
        refine Tot.ite (fun _ => ?_) (fun _ => ?_)
        · refine Tot.ite (fun _ => ?_) (fun _ => ?_)
          · exact hone _ _ _ (by omega) (by omega)
          · refine Tot.ite (fun _ => ?_) (fun _ => hno _ _ (by omega) (by omega))
            refine Tot.ite (fun _ => ?_) (fun _ => hno _ _ (by omega) (by omega))
            refine Tot.obind (one_ok hb p5 h5 3 (by omega) (by omega)) ?_
            rintro ⟨v, p6, h6⟩ ⟨u2, u3⟩
            simp only at u2 u3
            dsimp only
            exact Tot.ite (fun _ => hone _ _ _ (by omega) (by omega)) (fun _ => hno _ _ (by omega) (by omega))
        · refine Tot.ite (fun _ => ?_) (fun _ => hno _ _ (by omega) (by omega))
          refine Tot.ite (fun _ => ?_) (fun _ => hno _ _ (by omega) (by omega))
          refine Tot.obind (one_ok hb p5 h5 3 (by omega) (by omega)) ?_
          rintro ⟨v, p6, h6⟩ ⟨u2, u3⟩
          simp only at u2 u3
          dsimp only
          exact Tot.ite (fun _ => hone _ _ _ (by omega) (by omega)) (fun _ => hno _ _ (by omega) (by omega))
      · rintro ⟨p5, h5, z⟩ ⟨q1, q2, q3⟩
        simp only at q1 q2 q3
        refine Tot.step (fun _ => rfl) ?_
        simp only [Aac.l2, if_neg (show ¬ (m : Int) < (m : Int) by omega), next64 i m hi (by omega)]
        exact next (p5, h5, z) ⟨q1, by simp only; omega, q3⟩
    · rintro ⟨p4, h4, z⟩ ⟨t1, t2, t3⟩
      simp only at t1 t2 t3
      refine Tot.step (fun _ => rfl) ?_
      simp only [Aac.l1, if_neg (show ¬ (m : Int) < (m : Int) by omega)]
      refine Tot.ite (fun _ => Tot.now ⟨by simp only; omega, by simp only; omega, by simp only; omega, by simp only; omega, by simp only; omega⟩) (fun _ => ?_)
      refine Tot.bind (close_tot (m : Int) z (by omega)) ?_
      rintro ⟨a1, a2, a3⟩ ⟨c1, c2, c3, c4⟩
      exact Tot.now ⟨by simp only; omega, by simp only at c2 ⊢; omega, by simp only at c4 ⊢; omega, by simp only; omega, by simp only; omega⟩
theorem relation_tot {l : List Int} (hb : By l) (p h a : Int) (hp : 0 ≤ p) (hp2 : p ≤ 999000) (ha0 : 0 ≤ a) (ha : a ≤ 10) :
    Tot (fun k => Aaj.f k l p h a) (fun r => 0 ≤ r.1 ∧ r.1 ≤ a ∧ (r.2.1.length : Int) = r.1 ∧ p ≤ r.2.2.1 ∧ r.2.2.1 ≤ p + 400) := by
  unfold Aaj.f
  rw [wrap64_in (a + 1) (by omega) (by omega)]
  refine Tot.obind (pick_ok hb p h (a + 1) hp (by omega)) ?_
  rintro ⟨n, p1, h1⟩ ⟨n0, n1, n2, n3⟩
  simp only at n0 n1 n2 n3
  obtain ⟨m, rfl⟩ := Int.eq_ofNat_of_zero_le n0
  have hm : m ≤ 10 := by omega
  refine Tot.up (fun i (s : Int × Int × List Int) k => Aaj.l0 k l s.1 s.2.1 (m : Int) s.2.2) m
    (fun i s => p ≤ s.1 ∧ s.1 ≤ p + 2 + 20 * (i : Int) ∧ s.2.2.length = i) ?_ ?_ 0 (Nat.zero_le _) (p1, h1, []) ⟨by simp only; omega, by simp only; omega, rfl⟩
  · rintro i ⟨p2, h2, z⟩ hi ⟨s1, s2, s3⟩ next
    simp only at s1 s2 s3
    refine Tot.step (fun _ => rfl) ?_
    simp only [Aaj.l0, s3, if_pos (show (i : Int) < (m : Int) by omega)]
    refine Tot.up (fun j (s : Int × Int × Int) k => Aaj.l1 k s.1 (j : Int) l s.2.1 s.2.2 (m : Int) z) m
      (fun j s => p ≤ s.2.1 ∧ s.2.1 ≤ p + 2 + 20 * (i : Int) + 2 * (j : Int)) ?_ ?_ 0 (Nat.zero_le _) (0, p2, h2) ⟨by simp only; omega, by simp only; omega⟩
    · rintro j ⟨x, p3, h3⟩ hj ⟨q1, q2⟩ next
      simp only at q1 q2
      refine Tot.step (fun _ => rfl) ?_
      simp only [Aaj.l1, if_pos (show (j : Int) < (m : Int) by omega), if_pos (show (0 : Int) ≤ (j : Int) by omega), next64 j m hj (by omega)]
      refine Tot.obind (one_ok hb p3 h3 4 (by omega) (by omega)) ?_
      rintro ⟨v, p6, h6⟩ ⟨u2, u3⟩
      simp only at u2 u3
      dsimp only
      exact Tot.ite (fun _ => next (_, p6, h6) ⟨by simp only; omega, by simp only; omega⟩) (fun _ => next (_, p6, h6) ⟨by simp only; omega, by simp only; omega⟩)
    · rintro ⟨x, p3, h3⟩ ⟨q1, q2⟩
      simp only at q1 q2
      refine Tot.step (fun _ => rfl) ?_
      simp only [Aaj.l1, if_neg (show ¬ (m : Int) < (m : Int) by omega), s3, if_pos (show i < 17592186044416 by omega)]
      exact next (p3, h3, z ++ [x]) ⟨q1, by simp only; omega, by simp [s3]⟩
  · rintro ⟨p2, h2, z⟩ ⟨s1, s2, s3⟩
    simp only at s1 s2 s3
    refine Tot.step (fun _ => rfl) ?_
    simp only [Aaj.l0, s3, if_neg (show ¬ (m : Int) < (m : Int) by omega)]
    exact Tot.now ⟨by simp only; omega, by simp only; omega, by simp only; omega, by simp only; omega, by simp only; omega⟩
theorem anyOrder_tot {l : List Int} (hb : By l) (p h a : Int) (hp : 0 ≤ p) (hp2 : p ≤ 998000) (ha0 : 0 ≤ a) (ha : a ≤ 10) :
    Tot (fun k => Aa5.f k l p h a) (fun r => r.2.1.length ≤ 10 ∧ p ≤ r.2.2.1 ∧ r.2.2.1 ≤ p + 900) := by
  unfold Aa5.f
  refine Tot.bind (order_tot hb p h a hp (by omega) ha0 ha) ?_
  rintro ⟨n, z, p1, h1⟩ ⟨n0, n1, n2, n3, n4⟩
  simp only at n0 n1 n2 n3 n4
  refine Tot.obind (pick_ok hb p1 h1 14 (by omega) (by omega)) ?_
  rintro ⟨c, p2, h2⟩ ⟨k0, k1, k2, k3⟩
  simp only at k0 k1 k2 k3
  simp only []
  refine Tot.ite (fun _ => ?_) (fun _ => Tot.ite (fun _ => ?_) (fun _ => Tot.ite (fun _ => ?_) (fun _ => Tot.ite (fun _ => ?_) (fun _ => ?_))))
  · refine Tot.bind (relation_tot hb p2 h2 a (by omega) (by omega) ha0 ha) ?_
    rintro ⟨n', z', p', h'⟩ ⟨m0, m1, m2, m3, m4⟩
    simp only at m0 m1 m2 m3 m4
    exact Tot.now ⟨by simp only; omega, by simp only; omega, by simp only; omega⟩
  · refine Tot.obind (among_ok hb p2 h2 _ (by simp) (by omega) (by omega)) ?_
    rintro ⟨v, p', h'⟩ ⟨_, m3, m4⟩
    simp only at m3 m4
    exact Tot.now ⟨by simp only; omega, by simp only; omega, by simp only; omega⟩
  · refine Tot.ite (fun hz => ?_) (fun _ => Tot.now ⟨by simp only; omega, by simp only; omega, by simp only; omega⟩)
    refine Tot.obind (pick_ok hb p2 h2 _ (by omega) (by omega)) ?_
    rintro ⟨v, p', h'⟩ ⟨v0, v1, m3, m4⟩
    simp only at v0 v1 m3 m4
    simp only [if_pos n0]
    refine Tot.obind (among_ok hb p' h' _ (by simp) (by omega) (by omega)) ?_
    rintro ⟨v', p'', h''⟩ ⟨_, m5, m6⟩
    simp only at m5 m6
    simp only [if_pos v0]
    rw [if_pos (show v < (z.length : Int) by omega)]
    exact Tot.now ⟨by simp only [List.length_set]; omega, by simp only; omega, by simp only; omega⟩
  · refine Tot.bind (order_tot hb p2 h2 10 (by omega) (by omega) (by omega) (by omega)) ?_
    rintro ⟨n', z', p', h'⟩ ⟨m0, m1, m2, m3, m4⟩
    simp only at m0 m1 m2 m3 m4
    exact Tot.now ⟨by simp only; omega, by simp only; omega, by simp only; omega⟩
  · exact Tot.now ⟨by simp only; omega, by simp only; omega, by simp only; omega⟩
end Go.Proofs.YtimjblnglhmakaaDoor.M
namespace Go.Proofs.YtimjblnglhmakaaDoor.P
open Go.RowKit Go.Proofs.YtimjblnglhmakaaDoorW.PrintWords Go.Proofs.YtimjblnglhmakaaDoorW.PrintLast Go.Proofs.YtimjblnglhmakaaDoorW.PrintMore
open Bool renaming true → T, false → F
open List renaming setIfInBounds_toArray → L_, set_cons_zero → M_, set_cons_succ → N_, map_toArray → P_, map_cons → Q_, map_nil → R_, length_drop → S_, length_take → U_
open Aside0 renaming mk → A_
attribute [local go_sem] max2_int min2_int max_two min_two max_three min_three max_four min_four
set_option linter.unusedVariables false
set_option linter.unusedSimpArgs false
attribute [local go_sem] fldOrder_0 fldOrder_1

end Go.Proofs.YtimjblnglhmakaaDoor.P
namespace Go.Proofs.YtimjblnglhmakaaDoor.P
open Go.RowKit Go.Proofs.YtimjblnglhmakaaDoorW.PrintWords Go.Proofs.YtimjblnglhmakaaDoorW.PrintLast Go.Proofs.YtimjblnglhmakaaDoorW.PrintMore
open Bool renaming true → T, false → F
open List renaming setIfInBounds_toArray → L_, set_cons_zero → M_, set_cons_succ → N_, map_toArray → P_, map_cons → Q_, map_nil → R_, length_drop → S_, length_take → U_
open Aside0 renaming mk → A_
attribute [local go_sem] max2_int min2_int max_two min_two max_three min_three max_four min_four
set_option linter.unusedVariables false
set_option linter.unusedSimpArgs false
attribute [local go_sem] fldOrder_0 fldOrder_1
end Go.Proofs.YtimjblnglhmakaaDoor.P
namespace Go.Proofs.YtimjblnglhmakaaDoor.M
open Go.RowKit Go.Proofs.YtimjblnglhmakaaDoorW.PrintMore Go.Proofs.YtimjblnglhmakaaDoorW.PrintLast Go.Proofs.YtimjblnglhmakaaDoorW.PrintWords Go.Proofs.YtimjblnglhmakaaDoor.P
def mir (n : Nat) (l : List Int) : List Int := relL n fun i j => B l j i
theorem mir_rel {n : Nat} {l : List Int} (h : Rel n l) : Rel n (mir n l) := relL_rel n h.le _
theorem mir_B {n : Nat} {l : List Int} (h : Rel n l) (i j : Nat) : B (mir n l) i j = B l j i := by
  unfold mir
  rw [relL_B]
  cases hb : B l j i with
  | false => simp
  | true => simp [h.B_lt hb, h.B_lt' hb]
theorem mir_mir {n : Nat} {l : List Int} (h : Rel n l) : mir n (mir n l) = l := by
  apply Rel.ext (mir_rel (mir_rel h)) h
  intro i j _ _
  rw [mir_B (mir_rel h), mir_B h]
theorem mirror_ev {n : Nat} {l : List Int} (h : Rel n l) : Ev (fun k => Abc.f k (n : Int) l) ((n : Int), mir n l) := by
  have hn := h.le
  unfold Abc.f
  refine Ev.bind (relation_ev n (by omega) (fun _ x y => Abm.f x y (n : Int) l) (fun i j => B l j i) ?_) (Ev.now _)
  intro i j hi hj
  refine Ev.const ?_
  unfold Abm.f
  rw [better_eq h n j i hj (by omega)]
  rfl
theorem MirrorOf_ev (n : Int) (l : List Int) (hl : l.length ≤ 140737488355328) : Ev (fun k => Abt.f k n l) (if isRel n l then (n, mir n.toNat l, true) else (0, [], false)) := by
  unfold Abt.f
  refine Ev.bind (IsRelation_ev n l hl) ?_
  cases hr : isRel n l with
  | false => simp only [Bool.false_eq_true, if_false]; exact Ev.now _
  | true =>
    obtain ⟨m, rfl, h⟩ := isRel_iff.1 hr
    simp only [if_true, Int.toNat_natCast]
    exact Ev.bind (mirror_ev h) (Ev.now _)
theorem orBelow_ev {n : Nat} {l : List Int} (h : Rel n l) (z : Int) (i : Nat) (hi : i ≤ 62) : Ev (fun k => Aaz.f k z l (i : Int)) ((setOf n fun j => B l j i : Nat) : Int) := by
  have hlen := h.len
  have hn := h.le
  unfold Aaz.f
  rw [hlen]
  refine Ev.up (fun j k => Aaz.l0 k (i : Int) ((setOf j fun j => B l j i : Nat) : Int) l (n : Int) (j : Int)) n ?_ ?_
  · intro j hj next
    refine Ev.step (fun _ => rfl) ?_
    rw [setOf_bit_or] at next
    simp only [Aaz.l0, if_pos (show (j : Int) < (n : Int) by omega), if_pos (show (0 : Int) ≤ (j : Int) by omega), hlen, h.rd, orHas_eq _ i (by omega), Option.bind_some, next64 j n hj (by omega)]
    rw [show (row l j).testBit i = B l j i from rfl]
    cases hb : B l j i with
    | false =>
      rw [hb] at next
      simpa using next
    | true =>
      rw [hb] at next
      have h2 : (2 : Nat) ^ j < 9223372036854775808 := Nat.lt_of_le_of_lt (Nat.pow_le_pow_right (by decide) (by omega : j ≤ 62)) (by decide)
      simp only [if_true]
      rw [shl1 j (by omega), or_i64 (setOf j fun j => B l j i) (2 ^ j) (setOf_62 _ _ (by omega)) h2]
      simpa using next
  · refine Ev.step (fun _ => rfl) ?_
    simp only [Aaz.l0, if_neg (show ¬ (n : Int) < (n : Int) by omega)]
    exact Ev.now _
theorem rel_is {n : Nat} {l : List Int} (h : Rel n l) : isRel n l = true := isRel_iff.2 ⟨n, rfl, h⟩
end Go.Proofs.YtimjblnglhmakaaDoor.M
namespace Go.Proofs.YtimjblnglhmakaaDoor.M
open Go.RowKit Go.Proofs.YtimjblnglhmakaaDoorW.PrintMore Go.Proofs.YtimjblnglhmakaaDoorW.PrintLast Go.Proofs.YtimjblnglhmakaaDoorW.PrintWords Go.Proofs.YtimjblnglhmakaaDoor.P
def hit22 (l : List Int) (a b c d : Nat) : Bool := B l a b && (B l c d && (!B l c b && !B l a d))
def no22 (n : Nat) (l : List Int) : Bool := allB n fun a => allB n fun b => allB n fun c => allB n fun d => !hit22 l a b c d
theorem no22_iff {n : Nat} {l : List Int} : no22 n l = true ↔ ∀ a, a < n → ∀ b, b < n → ∀ c, c < n → ∀ d, d < n → hit22 l a b c d = false := by
  unfold no22
  simp only [allB_iff, Bool.not_eq_true']
section
variable {n : Nat} {l : List Int}
theorem semi_below (h22 : ∀ a b c d, hit22 l a b c d = false) {i j x : Nat} (h1 : B l x j = true) (h2 : B l x i = false) : ∀ k, B l k i = true → B l k j = true := by
  intro k hk
  cases hb : B l k j with
  | true => rfl
  | false =>
    have := h22 k i x j
    simp [hit22, h1, h2, hk, hb] at this
end
end Go.Proofs.YtimjblnglhmakaaDoor.M
namespace Go.Proofs.YtimjblnglhmakaaDoor.M
open Go.RowKit Go.Proofs.YtimjblnglhmakaaDoorW.PrintMore Go.Proofs.YtimjblnglhmakaaDoorW.PrintLast Go.Proofs.YtimjblnglhmakaaDoorW.PrintWords Go.Proofs.YtimjblnglhmakaaDoor.P
set_option maxRecDepth 4000
theorem twoTwo_ev {n : Nat} {l : List Int} (h : Rel n l) : EvP (fun k => Aad.f k (n : Int) l) (fun r => r = []) (∀ a, a < n → ∀ b, b < n → ∀ c, c < n → ∀ d, d < n → hit22 l a b c d = false) := by
  have hn := h.le
  unfold Aad.f
  refine EvP.iff (EvP.loop (fun a k => Aad.l0 k (n : Int) (a : Int) (n : Int) l) n (fun a => ∀ b, b < n → ∀ c, c < n → ∀ d, d < n → hit22 l a b c d = false) True ?_ ?_) (by rw [and_true])
  · intro a T ha next
    refine EvP.step (fun _ => rfl) ?_
    simp only [Aad.l0, if_pos (show (a : Int) < (n : Int) by omega)]
    refine EvP.loop (fun b k => Aad.l1 k (a : Int) (n : Int) (a : Int) (n : Int) (b : Int) (n : Int) l) n (fun b => ∀ c, c < n → ∀ d, d < n → hit22 l a b c d = false) T ?_ ?_
    · intro b T hb next
      refine EvP.step (fun _ => rfl) ?_
      simp only [Aad.l1, if_pos (show (b : Int) < (n : Int) by omega)]
      refine EvP.loop (fun c k => Aad.l2 k (a : Int) (b : Int) (n : Int) (a : Int) (n : Int) (b : Int) (n : Int) (c : Int) (n : Int) l) n (fun c => ∀ d, d < n → hit22 l a b c d = false) T ?_ ?_
      · intro c T hc next
        refine EvP.step (fun _ => rfl) ?_
        simp only [Aad.l2, if_pos (show (c : Int) < (n : Int) by omega)]
        refine EvP.loop (fun d k => Aad.l3 k (a : Int) (b : Int) (c : Int) (n : Int) (a : Int) (n : Int) (b : Int) (n : Int) (c : Int) (n : Int) (d : Int) (n : Int) l) n (fun d => hit22 l a b c d = false) T ?_ ?_
        · intro d T hd next
          refine EvP.step (fun _ => rfl) ?_
          simp only [Aad.l3, if_pos (show (d : Int) < (n : Int) by omega), better_eq h _ _ _ ha (show b ≤ 62 by omega), better_eq h _ _ _ hc (show d ≤ 62 by omega), better_eq h _ _ _ hc (show b ≤ 62 by omega), better_eq h _ _ _ ha (show d ≤ 62 by omega), Option.bind_some, next64 d n hd (by omega)]
          unfold hit22
          cases h1 : B l a b with
          | false => simp only [Bool.false_eq_true, if_false]; exact EvP.iff next (by simp)
          | true =>
            cases h2 : B l c d with
            | false => simp only [Bool.false_eq_true, if_false, if_true]; exact EvP.iff next (by simp)
            | true =>
              cases h3 : B l c b with
              | true => simp only [if_true]; exact EvP.iff next (by simp)
              | false =>
                cases h4 : B l a d with
                | true => simp only [Bool.false_eq_true, if_false, if_true]; exact EvP.iff next (by simp)
                | false => simp only [Bool.false_eq_true, if_false, if_true]; exact EvP.now (by simp)
        · refine EvP.step (fun _ => rfl) ?_
          simp only [Aad.l3, if_neg (show ¬ (n : Int) < (n : Int) by omega), next64 c n hc (by omega)]
          exact next
      · refine EvP.step (fun _ => rfl) ?_
        simp only [Aad.l2, if_neg (show ¬ (n : Int) < (n : Int) by omega), next64 b n hb (by omega)]
        exact next
    · refine EvP.step (fun _ => rfl) ?_
      simp only [Aad.l1, if_neg (show ¬ (n : Int) < (n : Int) by omega), next64 a n ha (by omega)]
      exact next
  · refine EvP.step (fun _ => rfl) ?_
    simp only [Aad.l0, if_neg (show ¬ (n : Int) < (n : Int) by omega)]
    exact EvP.now (by simp)
def isInt (n : Int) (l : List Int) : Bool := isOrd n l && no22 n.toNat l
theorem isInterval_ev (n : Int) (l : List Int) (hl : l.length ≤ 140737488355328) : Ev (fun k => Aat.f k n l) (isInt n l) := by
  unfold Aat.f isInt
  refine Ev.bind (IsOrder_ev n l hl) ?_
  cases ho : isOrd n l with
  | false => simp only [Bool.false_eq_true, if_false, Bool.false_and]; exact Ev.now _
  | true =>
    obtain ⟨n, rfl, o⟩ := isOrd_iff.1 ho
    simp only [if_true, Bool.true_and, Int.toNat_natCast]
    obtain ⟨r, hr, e⟩ := twoTwo_ev o.toRel
    refine Ev.bind hr (Ev.to (Ev.now _) ?_)
    rw [Bool.eq_iff_iff, beq_iff_eq, no22_iff]
    exact e
end Go.Proofs.YtimjblnglhmakaaDoor.M
namespace Go.Proofs.YtimjblnglhmakaaDoor.P
open Go.RowKit Go.Proofs.YtimjblnglhmakaaDoorW.PrintWords Go.Proofs.YtimjblnglhmakaaDoorW.PrintLast Go.Proofs.YtimjblnglhmakaaDoorW.PrintMore
open Bool renaming true → T, false → F
open List renaming setIfInBounds_toArray → L_, set_cons_zero → M_, set_cons_succ → N_, map_toArray → P_, map_cons → Q_, map_nil → R_, length_drop → S_, length_take → U_
open Aside0 renaming mk → A_
attribute [local go_sem] max2_int min2_int max_two min_two max_three min_three max_four min_four
set_option linter.unusedVariables false
set_option linter.unusedSimpArgs false
attribute [local go_sem] fldOrder_0 fldOrder_1
def Ab8.l0 : Nat → Int → List Int → Int → Int → Option (Int)
 | 0,_,_,_,_=>none
 | k + 1,x1,x7,x8,x9=>if x9 < x8 then (if 0 ≤ x9 then (if x9 < (x7.length : Int) then (if (rd x7 x9) = x1 then (some x9) else (Ab8.l0 k x1 x7 x8 (wrap64 (x9 + 1)))) else (none)) else (none)) else (some (-1))
def Ab8.f (k : Nat) (l0 : List Int) (a1 : Int) : Option (Int) := Ab8.l0 k a1 l0 (l0.length : Int) 0
end Go.Proofs.YtimjblnglhmakaaDoor.P
namespace Go.Proofs.YtimjblnglhmakaaDoor.M
def srt (l : List Int) : List Int := l.mergeSort fun x y => decide (x ≤ y)
theorem srt_perm (l : List Int) : (srt l).Perm l := List.mergeSort_perm _ _
theorem srt_sorted (l : List Int) : (srt l).Pairwise (· ≤ ·) := by
  have h := List.pairwise_mergeSort (le := fun (x y : Int) => decide (x ≤ y)) (by intro a b c h1 h2; simp only [decide_eq_true_iff] at *; omega) (by intro a b; simp only [Bool.or_eq_true, decide_eq_true_iff]; omega) l
  exact h.imp (fun h => of_decide_eq_true h)
def put (T : List Nat) (k i : Nat) : List Nat := T.take k ++ i :: T.drop k
def ins (x : Int) : List Int → List Int
  | [] => [x]
  | y :: l => if y < x then y :: ins x l else if y = x then y :: l else x :: y :: l
def Inc (l : List Int) : Prop := l.Pairwise (· < ·)
theorem mem_ins (x y : Int) (l : List Int) : y ∈ ins x l ↔ y = x ∨ y ∈ l := by
  induction l with
  | nil => simp [ins]
  | cons z l ih =>
    unfold ins
    split
    · rw [List.mem_cons, ih, List.mem_cons]
      constructor
      · rintro (h | h | h)
        · exact .inr (.inl h)
        · exact .inl h
        · exact .inr (.inr h)
      · rintro (h | h | h)
        · exact .inr (.inl h)
        · exact .inl h
        · exact .inr (.inr h)
    · split
      · rename_i h1 h2
        rw [List.mem_cons]
        constructor
        · exact .inr
        · rintro (h | h)
          · exact .inl (h.trans h2.symm)
          · exact h
      · rw [List.mem_cons]
theorem inc_ins (x : Int) (l : List Int) (h : Inc l) : Inc (ins x l) := by
  induction l with
  | nil => simp [ins, Inc]
  | cons z l ih =>
    have h' := List.pairwise_cons.1 h
    unfold ins
    split
    · rename_i hz
      refine List.pairwise_cons.2 ⟨fun y hy => ?_, ih h'.2⟩
      rcases (mem_ins x y l).1 hy with rfl | hy
      · exact hz
      · exact h'.1 y hy
    · split
      · exact h
      · rename_i h1 h2
        refine List.pairwise_cons.2 ⟨fun y hy => ?_, h⟩
        rcases List.mem_cons.1 hy with rfl | hy
        · omega
        · have := h'.1 y hy; omega
def dif (l : List Int) : List Int := l.foldl (fun acc x => ins x acc) []
theorem dif_foldl (l acc : List Int) (h : Inc acc) : Inc (l.foldl (fun acc x => ins x acc) acc) ∧ ∀ y, y ∈ l.foldl (fun acc x => ins x acc) acc ↔ y ∈ acc ∨ y ∈ l := by
  induction l generalizing acc with
  | nil => exact ⟨h, fun y => by simp⟩
  | cons x l ih =>
    obtain ⟨h1, h2⟩ := ih (ins x acc) (inc_ins x acc h)
    refine ⟨h1, fun y => (h2 y).trans ?_⟩
    rw [mem_ins, List.mem_cons]
    constructor
    · rintro ((h | h) | h)
      · exact .inr (.inl h)
      · exact .inl h
      · exact .inr (.inr h)
    · rintro (h | h | h)
      · exact .inl (.inr h)
      · exact .inl (.inl h)
      · exact .inr h
theorem dif_inc (l : List Int) : Inc (dif l) := (dif_foldl l [] List.Pairwise.nil).1
theorem mem_dif (l : List Int) (y : Int) : y ∈ dif l ↔ y ∈ l := by
  have := (dif_foldl l [] List.Pairwise.nil).2 y
  unfold dif
  simpa using this
theorem inc_nodup {l : List Int} (h : Inc l) : l.Nodup := h.imp (fun h => by omega)
theorem inc_ext {l l' : List Int} (h : Inc l) (h' : Inc l') (hm : ∀ y, y ∈ l ↔ y ∈ l') : l = l' :=
  List.Perm.eq_of_pairwise (fun _ _ _ _ h1 h2 => by omega) h h' ((List.perm_ext_iff_of_nodup (inc_nodup h) (inc_nodup h')).2 hm)
theorem dif_length_le (l : List Int) : (dif l).length ≤ l.length := by
  have : ∀ (l acc : List Int), (l.foldl (fun acc x => ins x acc) acc).length ≤ acc.length + l.length := by
    intro l
    induction l with
    | nil => intro acc; simp
    | cons x l ih =>
      intro acc
      have h1 := ih (ins x acc)
      have h2 : (ins x acc).length ≤ acc.length + 1 := by
        clear h1 ih
        induction acc with
        | nil => simp [ins]
        | cons y acc ih => unfold ins; split <;> (try split) <;> simp <;> omega
      simp only [List.foldl_cons, List.length_cons]
      omega
  unfold dif
  simpa using this l []
def rank (l : List Int) (x : Int) : Nat := (dif l).countP fun y => decide (y < x)
theorem inc_place {l : List Int} (h : Inc l) (k : Nat) (hk : k < l.length) : l.countP (fun y => decide (y < l[k])) = k := by
  have hp := List.pairwise_iff_getElem.1 h
  have e : l = l.take k ++ l.drop k := (List.take_append_drop k l).symm
  have h1 : (l.take k).countP (fun y => decide (y < l[k])) = (l.take k).length := by
    rw [List.countP_eq_length]
    intro y hy
    obtain ⟨j, hj, rfl⟩ := List.mem_iff_getElem.1 hy
    rw [List.length_take] at hj
    rw [List.getElem_take, decide_eq_true_iff]
    exact hp j k (by omega) hk (by omega)
  have h2 : (l.drop k).countP (fun y => decide (y < l[k])) = 0 := by
    rw [List.countP_eq_zero]
    intro y hy
    obtain ⟨j, hj, rfl⟩ := List.mem_iff_getElem.1 hy
    rw [List.length_drop] at hj
    rw [List.getElem_drop, decide_eq_true_iff]
    by_cases h0 : j = 0
    · subst h0; simp
    · have := hp k (k + j) hk (by omega) (by omega); omega
  calc l.countP (fun y => decide (y < l[k])) = (l.take k ++ l.drop k).countP (fun y => decide (y < l[k])) := by rw [List.take_append_drop]
    _ = k := by rw [List.countP_append, h1, h2, List.length_take]; omega
theorem rank_at (l : List Int) (k : Nat) (hk : k < (dif l).length) : rank l (dif l)[k] = k := inc_place (dif_inc l) k hk
theorem rank_lt {l : List Int} {x : Int} (h : x ∈ l) : ∃ hk : rank l x < (dif l).length, (dif l)[rank l x] = x := by
  obtain ⟨k, hk, e⟩ := List.mem_iff_getElem.1 ((mem_dif l x).2 h)
  have := rank_at l k hk
  rw [e] at this
  exact ⟨by omega, by simp only [this]; exact e⟩
theorem rank_lt_iff {l : List Int} {x y : Int} (hx : x ∈ l) (hy : y ∈ l) : rank l x < rank l y ↔ x < y := by
  obtain ⟨h1, e1⟩ := rank_lt hx
  obtain ⟨h2, e2⟩ := rank_lt hy
  constructor
  · intro h
    have := List.pairwise_iff_getElem.1 (dif_inc l) _ _ h1 h2 h
    rwa [e1, e2] at this
  · intro h
    rcases Nat.lt_or_ge (rank l x) (rank l y) with h3 | h3
    · exact h3
    · rcases Nat.lt_or_eq_of_le h3 with h4 | h4
      · have := List.pairwise_iff_getElem.1 (dif_inc l) _ _ h2 h1 h4
        rw [e1, e2] at this
        omega
      · have : (dif l)[rank l y] = (dif l)[rank l x] := by simp only [h4]
        rw [e1, e2] at this
        omega
theorem dif_map {α : Type} (L : List α) (f g : α → Int) (h : ∀ x ∈ L, ∀ y ∈ L, f x < f y ↔ g x < g y) (x : α) (hx : x ∈ L) : rank (L.map f) (f x) = rank (L.map g) (g x) := by
  have key : ∀ (f g : α → Int), (∀ x ∈ L, ∀ y ∈ L, f x < f y ↔ g x < g y) → rank (L.map f) (f x) ≤ rank (L.map g) (g x) := by
    intro f g h
    have hsub : ∀ (M : List Int), Inc M → (∀ z ∈ M, z ∈ L.map f ∧ z < f x) → M.length ≤ rank (L.map g) (g x) := by
      intro M hM hz
      -- the g's of the members of M, in order
      have : ∃ N : List Int, N.length = M.length ∧ Inc N ∧ ∀ z ∈ N, z ∈ L.map g ∧ z < g x := by
        have step : ∀ (M : List Int), Inc M → (∀ z ∈ M, z ∈ L.map f ∧ z < f x) → ∃ N : List α, N.map f = M ∧ (∀ z ∈ N, z ∈ L ∧ f z < f x) := by
          intro M
          induction M with
          | nil => intro _ _; exact ⟨[], rfl, by simp⟩
          | cons m M ih =>
            intro hM hz
            obtain ⟨N, e, hN⟩ := ih (List.pairwise_cons.1 hM).2 fun z hzM => hz z (List.mem_cons_of_mem _ hzM)
            obtain ⟨h1, h2⟩ := hz m List.mem_cons_self
            obtain ⟨a, ha, rfl⟩ := List.mem_map.1 h1
            refine ⟨a :: N, by rw [List.map_cons, e], fun z hzN => ?_⟩
            rcases List.mem_cons.1 hzN with rfl | hzN
            · exact ⟨ha, h2⟩
            · exact hN z hzN
        obtain ⟨N, e, hN⟩ := step M hM hz
        refine ⟨N.map g, by rw [← e]; simp, ?_, ?_⟩
        · rw [Inc, ← e] at hM
          have hM : N.Pairwise fun a b => f a < f b := List.pairwise_map.1 hM
          refine List.pairwise_map.2 (List.Pairwise.imp_of_mem (fun ha hb hab => ?_) hM)
          exact (h _ (hN _ ha).1 _ (hN _ hb).1).1 hab
        · intro z hz
          obtain ⟨a, ha, rfl⟩ := List.mem_map.1 hz
          exact ⟨List.mem_map_of_mem (hN a ha).1, (h _ (hN a ha).1 _ hx).1 (hN a ha).2⟩
      obtain ⟨N, e, hN, hz⟩ := this
      rw [← e]
      have hs : N.Nodup := inc_nodup hN
      have hf : ((dif (L.map g)).filter fun y => decide (y < g x)).Nodup := List.Nodup.sublist List.filter_sublist (inc_nodup (dif_inc _))
      have : N.Subset ((dif (L.map g)).filter fun y => decide (y < g x)) := by
        intro z hzN
        rw [List.mem_filter, mem_dif, decide_eq_true_iff]
        exact hz z hzN
      unfold rank
      rw [List.countP_eq_length_filter]
      exact List.Nodup.length_le_of_subset hs this
    unfold rank
    rw [List.countP_eq_length_filter]
    refine hsub _ ((dif_inc _).sublist List.filter_sublist) fun z hz => ?_
    rw [List.mem_filter, mem_dif, decide_eq_true_iff] at hz
    exact hz
  exact Nat.le_antisymm (key f g h) (key g f fun a ha b hb => (h a ha b hb).symm)
theorem compact_srt (l : List Int) : Lib.compact (srt l) = dif l := by
  have hs := srt_sorted l
  have hp := List.pairwise_iff_getElem.1 hs
  have hg : ∀ j (hj : j < (srt l).length), (srt l).toArray[j]! = (srt l)[j] := by intro j hj; simp [hj]
  refine inc_ext ?_ (dif_inc l) fun y => ?_
  · unfold Lib.compact Lib.compactUpTo Inc
    rw [List.pairwise_map]
    refine List.Pairwise.imp_of_mem (R := fun a b => a < b) (fun {a b} ha hb hab => ?_) (List.pairwise_lt_range.sublist List.filter_sublist)
    rw [List.mem_filter, List.mem_range] at ha hb
    have hk := hb.2
    unfold Lib.keeps at hk
    rw [decide_eq_true_iff] at hk
    have hk := hk.resolve_left (by omega)
    rw [hg a ha.1, hg b hb.1]
    rw [hg b hb.1, hg (b - 1) (by omega)] at hk
    have h1 := hp (b - 1) b (by omega) hb.1 (by omega)
    by_cases hab' : a = b - 1
    · subst hab'; omega
    · have := hp a (b - 1) ha.1 (by omega) (by omega); omega
  · rw [mem_dif, ← (srt_perm l).mem_iff]
    unfold Lib.compact Lib.compactUpTo
    rw [List.mem_map]
    constructor
    · rintro ⟨j, hj, rfl⟩
      rw [List.mem_filter, List.mem_range] at hj
      rw [hg j hj.1]
      exact List.getElem_mem _
    · intro hy
      obtain ⟨j, hj, e⟩ := List.mem_iff_getElem.1 hy
      induction j using Nat.strongRecOn with
      | _ j ih =>
        by_cases h0 : j = 0 ∨ (srt l)[j] ≠ (srt l)[j - 1]'(by omega)
        · refine ⟨j, ?_, by rw [hg j hj]; exact e⟩
          rw [List.mem_filter, List.mem_range]
          refine ⟨hj, ?_⟩
          unfold Lib.keeps
          rw [decide_eq_true_iff, hg j hj, hg (j - 1) (by omega)]
          exact h0
        · have h1 : ¬ j = 0 := fun h => h0 (.inl h)
          have h2 : (srt l)[j] = (srt l)[j - 1]'(by omega) := Decidable.byContradiction fun h => h0 (.inr h)
          exact ih (j - 1) (by omega) (by omega) (by rw [← h2]; exact e)
end Go.Proofs.YtimjblnglhmakaaDoor.M
namespace Go.Proofs.YtimjblnglhmakaaDoor.M
open Go.RowKit Go.Proofs.YtimjblnglhmakaaDoorW.PrintMore Go.Proofs.YtimjblnglhmakaaDoorW.PrintLast Go.Proofs.YtimjblnglhmakaaDoorW.PrintWords Go.Proofs.YtimjblnglhmakaaDoor.P
theorem diff_le {a b : Nat} (h : diff a b = 0) : a ≤ b := by
  have e : a &&& b = a := by
    apply Nat.eq_of_testBit_eq
    intro j
    rw [Nat.testBit_and]
    cases hj : a.testBit j with
    | false => simp
    | true => rw [(diff_zero a b).1 h j hj]; rfl
  have := Nat.and_le_right (n := a) (m := b)
  omega
def level (sets : List Int) (own : Nat) : Nat := sets.countP fun s => decide (s ≠ (own : Int) ∧ diff s.toNat own = 0)
theorem levels_rank (n : Nat) (low : Nat → Nat) (x : Nat → Int) (h1 : ∀ i j, i < n → j < n → x i < x j → diff (low i) (low j) = 0 ∧ low i ≠ low j) (h2 : ∀ i j, i < n → j < n → x i = x j → low i = low j) (j : Nat) (hj : j < n) :
    level (dif ((List.range n).map fun i => ((low i : Nat) : Int))) (low j) = rank ((List.range n).map x) (x j) := by
  have key : ∀ i, i < n → ∀ j, j < n → (((low i : Nat) : Int) < ((low j : Nat) : Int) ↔ x i < x j) := by
    intro i hi j hj
    constructor
    · intro h
      rcases Int.lt_trichotomy (x i) (x j) with h3 | h3 | h3
      · exact h3
      · have := h2 i j hi hj h3; omega
      · have := diff_le (h1 j i hj hi h3).1; omega
    · intro h
      have := h1 i j hi hj h
      have h3 := diff_le this.1
      have h4 := this.2
      omega
  rw [← dif_map (List.range n) (fun i => ((low i : Nat) : Int)) x (fun a ha b hb => key a (List.mem_range.1 ha) b (List.mem_range.1 hb)) j (List.mem_range.2 hj)]
  unfold level rank
  apply List.countP_congr
  intro s hs
  rw [mem_dif, List.mem_map] at hs
  obtain ⟨i, hi, rfl⟩ := hs
  have hi := List.mem_range.1 hi
  rw [decide_eq_true_iff, decide_eq_true_iff]
  constructor
  · rintro ⟨a, b⟩
    have := diff_le b
    rw [Int.toNat_natCast] at this
    omega
  · intro h
    obtain ⟨a, b⟩ := h1 i j hi hj ((key i hi j hj).1 h)
    refine ⟨by omega, by rw [Int.toNat_natCast]; exact a⟩
end Go.Proofs.YtimjblnglhmakaaDoor.M
namespace Go.Proofs.YtimjblnglhmakaaDoor.P
open Go.RowKit Go.Proofs.YtimjblnglhmakaaDoorW.PrintWords Go.Proofs.YtimjblnglhmakaaDoorW.PrintLast Go.Proofs.YtimjblnglhmakaaDoorW.PrintMore
open Bool renaming true → T, false → F
open List renaming setIfInBounds_toArray → L_, set_cons_zero → M_, set_cons_succ → N_, map_toArray → P_, map_cons → Q_, map_nil → R_, length_drop → S_, length_take → U_
open Aside0 renaming mk → A_
attribute [local go_sem] max2_int min2_int max_two min_two max_three min_three max_four min_four
set_option linter.unusedVariables false
set_option linter.unusedSimpArgs false
attribute [local go_sem] fldOrder_0 fldOrder_1
mutual
def Abu.l0 : Nat → List Int → List Int → List Int → Int → Int → Option (List Int)
 | 0,_,_,_,_,_=>none
 | k + 1,x0,x3,x9,x10,x11=>if x11 < x10 then (if 0 ≤ x11 then (if x11 < (x9.length : Int) then ((Abf.f k x3 (rd x9 x11)).bind fun t581=>(Abu.l0 k x0 t581 x9 x10 (wrap64 (x11 + 1)))) else (none)) else (none)) else (Abu.l1 k x3 ([] : List Int) x0 (x0.length : Int) 0)
def Abu.l1 : Nat → List Int → List Int → List Int → Int → Int → Option (List Int)
 | 0,_,_,_,_,_=>none
 | k + 1,x3,x4,x19,x20,x21=>if x21 < x20 then (if 0 ≤ x21 then (if x21 < (x19.length : Int) then ((Ab8.f k x3 (rd x19 x21)).bind fun t585=>(if x4.length < 17592186044416 then (Abu.l1 k x3 (x4 ++ [t585]) x19 x20 (wrap64 (x21 + 1))) else (none))) else (none)) else (none)) else (some x4)
end
def Abu.f (k : Nat) (l0 : List Int) : Option (List Int) := Abu.l0 k l0 ([] : List Int) l0 (l0.length : Int) 0
end Go.Proofs.YtimjblnglhmakaaDoor.P
namespace Go.Proofs.YtimjblnglhmakaaDoor.M
open Go.RowKit Go.Proofs.YtimjblnglhmakaaDoorW.PrintMore Go.Proofs.YtimjblnglhmakaaDoorW.PrintLast Go.Proofs.YtimjblnglhmakaaDoorW.PrintWords Go.Proofs.YtimjblnglhmakaaDoor.P
set_option maxRecDepth 4000
theorem ins_at (x : Int) (l : List Int) (p : Nat) (hp : p ≤ l.length) (h1 : ∀ j, j < p → l.getD j 0 < x) (h2 : p < l.length → ¬ l.getD p 0 < x) : ins x l = if p < l.length ∧ l.getD p 0 = x then l else l.take p ++ x :: l.drop p := by
  induction l generalizing p with
  | nil =>
    obtain rfl : p = 0 := by simpa using hp
    simp [ins]
  | cons y l ih =>
    cases p with
    | zero =>
      have h2 := h2 (by simp)
      simp only [List.getD_cons_zero] at h2
      unfold ins
      rw [if_neg h2]
      simp
    | succ p =>
      have hy : y < x := by simpa using h1 0 (by omega)
      unfold ins
      rw [if_pos hy, ih p (by simpa using hp) (fun j hj => by simpa using h1 (j + 1) (by omega)) (fun hlt => by simpa using h2 (by simpa using hlt))]
      by_cases hc : p < l.length ∧ l.getD p 0 = x
      · rw [if_pos hc, if_pos (by simpa using hc)]
      · rw [if_neg hc, if_neg (by simpa using hc)]
        simp
theorem l1Put_ev (l : List Int) (x : Int) (hl : l.length ≤ 1048576) : Ev (fun k => Abf.f k l x) (ins x l) := by
  unfold Abf.f
  have key : ∀ m p, p + m = l.length → (∀ j, j < p → l.getD j 0 < x) → Ev (fun k => Abf.l0 k l x (p : Int)) (ins x l) := by
    intro m
    induction m with
    | zero =>
      intro p hp h1
      have e := ins_at x l p (by omega) h1 (fun h => by omega)
      rw [if_neg (fun h => by omega)] at e
      rw [e]
      refine Ev.step (fun _ => rfl) ?_
      simp only [Abf.l0, if_neg (show ¬ (p : Int) < (l.length : Int) by omega), if_pos (show (0 : Int) ≤ (p : Int) by omega), if_pos (show (p : Int) ≤ (l.length : Int) by omega), Option.bind_some, Int.toNat_natCast, List.nil_append, List.length_nil, List.length_append, List.length_take, List.length_drop, List.length_singleton,
        if_pos (show 0 + min p l.length < 17592186044416 by omega), if_pos (show 0 + min p l.length + 1 + (l.length - p) < 17592186044416 by omega)]
      exact Ev.to (Ev.now _) (by simp)
    | succ m ih =>
      intro p hp h1
      refine Ev.step (fun _ => rfl) ?_
      by_cases c : l.getD p 0 < x
      · simp only [Abf.l0, if_pos (show (p : Int) < (l.length : Int) by omega), if_pos (show (0 : Int) ≤ (p : Int) by omega), rd_nat, if_pos c, next64 p l.length (by omega) (by omega)]
        refine ih (p + 1) (by omega) fun j hj => ?_
        by_cases e : j = p
        · rw [e]; exact c
        · exact h1 j (by omega)
      · have e := ins_at x l p (by omega) h1 (fun _ => c)
        by_cases c2 : l.getD p 0 = x
        · rw [if_pos ⟨by omega, c2⟩] at e
          rw [e]
          simp only [Abf.l0, if_pos (show (p : Int) < (l.length : Int) by omega), if_pos (show (0 : Int) ≤ (p : Int) by omega), rd_nat, if_neg c, if_pos c2]
          exact Ev.now _
        · rw [if_neg (fun h => c2 h.2)] at e
          rw [e]
          simp only [Abf.l0, if_pos (show (p : Int) < (l.length : Int) by omega), if_pos (show (0 : Int) ≤ (p : Int) by omega), rd_nat, if_neg c, if_neg c2, if_pos (show (p : Int) ≤ (l.length : Int) by omega), Option.bind_some, Int.toNat_natCast, List.nil_append, List.length_nil, List.length_append, List.length_take, List.length_drop, List.length_singleton,
            if_pos (show 0 + min p l.length < 17592186044416 by omega), if_pos (show 0 + min p l.length + 1 + (l.length - p) < 17592186044416 by omega)]
          exact Ev.to (Ev.now _) (by simp)
  exact key l.length 0 (by omega) (fun j hj => by omega)
theorem take_next {zs : List Int} (i : Nat) (hi : i < zs.length) : zs.take (i + 1) = zs.take i ++ [zs.getD i 0] := by rw [List.take_add_one]; simp [hi]
theorem different_eq (l : List Int) (h : l.length ≤ 1048576) : Abd.f l = some (dif l) := by
  unfold Abd.f
  rw [if_pos (by omega), show HD.srt l = srt l from rfl, compact_srt]
theorem Rel.rows {n : Nat} {l : List Int} (h : Rel n l) : l = (List.range n).map fun i => ((row l i : Nat) : Int) := by
  refine list_ext_getD (by rw [h.len]; simp) fun i hi => ?_
  rw [h.len] at hi
  rw [h.getD]
  simp [hi]
def levelsL (n : Nat) (m : List Int) : List Int := (List.range n).map fun j => ((level (dif m) (row m j) : Nat) : Int)
theorem level_snoc (L : List Int) (s : Int) (own : Nat) : level (L ++ [s]) own = level L own + if s ≠ (own : Int) ∧ diff s.toNat own = 0 then 1 else 0 := by
  unfold level
  rw [List.countP_append, List.countP_singleton]
  simp only [decide_eq_true_iff]
theorem level_le (L : List Int) (own : Nat) : level L own ≤ L.length := List.countP_le_length
theorem levels_ev {n : Nat} {l : List Int} (h : Rel n l) : Ev (fun k => Aai.f k (n : Int) l) (levelsL n (mir n l)) := by
  have hn := h.le
  have hm := mir_rel h
  have hd := dif_length_le (mir n l)
  rw [hm.len] at hd
  unfold Aai.f
  refine Ev.bind (mirror_ev h) ?_
  simp only [different_eq (mir n l) (by rw [hm.len]; omega), Option.bind_some, hm.len]
  refine Ev.up (fun j k => Aai.l0 k ((List.range j).map fun j => ((level (dif (mir n l)) (row (mir n l) j) : Nat) : Int)) (dif (mir n l)) (mir n l) (n : Int) (j : Int)) n ?_ ?_
  · intro j hj next
    refine Ev.step (fun _ => rfl) ?_
    simp only [Aai.l0, if_pos (show (j : Int) < (n : Int) by omega), if_pos (show (0 : Int) ≤ (j : Int) by omega), hm.len, hm.rd]
    refine Ev.up (fun q k => Aai.l1 k ((List.range j).map fun j => ((level (dif (mir n l)) (row (mir n l) j) : Nat) : Int)) (dif (mir n l)) ((row (mir n l) j : Nat) : Int) ((level ((dif (mir n l)).take q) (row (mir n l) j) : Nat) : Int) (mir n l) (n : Int) (j : Int) (dif (mir n l)) ((dif (mir n l)).length : Int) (q : Int)) (dif (mir n l)).length ?_ ?_
    · intro q hq next
      obtain ⟨i, hi, hs⟩ : ∃ i, i < n ∧ (dif (mir n l)).getD q 0 = ((row (mir n l) i : Nat) : Int) := by
        have hmem : (dif (mir n l)).getD q 0 ∈ dif (mir n l) := by simp [hq]
        rw [mem_dif] at hmem
        rw [hm.rows] at hmem
        obtain ⟨i, hi, e⟩ := List.mem_map.1 hmem
        exact ⟨i, List.mem_range.1 hi, by rw [← hm.rows] at e; exact e.symm⟩
      have hlv := level_le ((dif (mir n l)).take q) (row (mir n l) j)
      rw [List.length_take] at hlv
      rw [take_next q hq, level_snoc, hs, Int.toNat_natCast] at next
      refine Ev.step (fun _ => rfl) ?_
      simp only [Aai.l1, if_pos (show (q : Int) < ((dif (mir n l)).length : Int) by omega), if_pos (show (0 : Int) ≤ (q : Int) by omega), rd_nat, hs, andNot_i64 _ _ (hm.row_62 i) (hm.row_62 j), next64 q _ hq (by omega)]
      by_cases c : row (mir n l) i = row (mir n l) j
      · rw [if_neg (fun h => h.1 (by omega))] at next
        simp only [if_pos (show ((row (mir n l) i : Nat) : Int) = ((row (mir n l) j : Nat) : Int) by omega)]
        exact next
      · simp only [if_neg (show ¬ ((row (mir n l) i : Nat) : Int) = ((row (mir n l) j : Nat) : Int) by omega)]
        by_cases c2 : diff (row (mir n l) i) (row (mir n l) j) = 0
        · rw [if_pos ⟨by omega, c2⟩] at next
          simp only [if_pos (show ((diff (row (mir n l) i) (row (mir n l) j) : Nat) : Int) = 0 by omega), next64 (level ((dif (mir n l)).take q) (row (mir n l) j)) 1048576 (by omega) (by omega)]
          exact next
        · rw [if_neg (fun h => c2 h.2)] at next
          simp only [if_neg (show ¬ ((diff (row (mir n l) i) (row (mir n l) j) : Nat) : Int) = 0 by omega)]
          exact next
    · refine Ev.step (fun _ => rfl) ?_
      simp only [Aai.l1, if_neg (show ¬ ((dif (mir n l)).length : Int) < ((dif (mir n l)).length : Int) by omega), List.length_map, List.length_range, if_pos (show j < 17592186044416 by omega), List.take_length, next64 j n hj (by omega)]
      simpa [List.range_succ] using next
  · refine Ev.step (fun _ => rfl) ?_
    simp only [Aai.l0, if_neg (show ¬ (n : Int) < (n : Int) by omega)]
    exact Ev.now _
end Go.Proofs.YtimjblnglhmakaaDoor.M
namespace Go.Proofs.YtimjblnglhmakaaDoor.P
open Go.RowKit Go.Proofs.YtimjblnglhmakaaDoorW.PrintWords Go.Proofs.YtimjblnglhmakaaDoorW.PrintLast Go.Proofs.YtimjblnglhmakaaDoorW.PrintMore
open Bool renaming true → T, false → F
open List renaming setIfInBounds_toArray → L_, set_cons_zero → M_, set_cons_succ → N_, map_toArray → P_, map_cons → Q_, map_nil → R_, length_drop → S_, length_take → U_
open Aside0 renaming mk → A_
attribute [local go_sem] max2_int min2_int max_two min_two max_three min_three max_four min_four
set_option linter.unusedVariables false
set_option linter.unusedSimpArgs false
attribute [local go_sem] fldOrder_0 fldOrder_1
end Go.Proofs.YtimjblnglhmakaaDoor.P
namespace Go.Proofs.YtimjblnglhmakaaDoor.P
open Go.RowKit Go.Proofs.YtimjblnglhmakaaDoorW.PrintWords Go.Proofs.YtimjblnglhmakaaDoorW.PrintLast Go.Proofs.YtimjblnglhmakaaDoorW.PrintMore
open Bool renaming true → T, false → F
open List renaming setIfInBounds_toArray → L_, set_cons_zero → M_, set_cons_succ → N_, map_toArray → P_, map_cons → Q_, map_nil → R_, length_drop → S_, length_take → U_
open Aside0 renaming mk → A_
attribute [local go_sem] max2_int min2_int max_two min_two max_three min_three max_four min_four
set_option linter.unusedVariables false
set_option linter.unusedSimpArgs false
attribute [local go_sem] fldOrder_0 fldOrder_1
end Go.Proofs.YtimjblnglhmakaaDoor.P
namespace Go.Proofs.YtimjblnglhmakaaDoor.M
open Go.RowKit Go.Proofs.YtimjblnglhmakaaDoorW.PrintMore Go.Proofs.YtimjblnglhmakaaDoorW.PrintLast Go.Proofs.YtimjblnglhmakaaDoorW.PrintWords Go.Proofs.YtimjblnglhmakaaDoor.P
set_option maxRecDepth 4000
abbrev Iv := S62
def Lf (L : List Iv) (i : Nat) : Int := (L.getD i z62).f0
def Rt (L : List Iv) (i : Nat) : Int := (L.getD i z62).f1
theorem rd_iv0 (L : List Iv) (i : Nat) : (rd_T62 L (i : Int)).f0 = Lf L i := by simp [rd_T62, Lf]
theorem rd_iv1 (L : List Iv) (i : Nat) : (rd_T62 L (i : Int)).f1 = Rt L i := by simp [rd_T62, Rt]
theorem if_and (a b : Bool) : (if a then b else false) = (a && b) := by cases a <;> cases b <;> rfl
theorem Ev.allv2 {α : Type} (G : Nat → Nat → Option α) (n : Nat) (p : Nat → Bool) (vt vf : α) (yes : ∀ i r, i < n → p i = true → Ev (G (i + 1)) r → Ev (G i) r) (no : ∀ i, i < n → p i = false → Ev (G i) vf) (stop : Ev (G n) vt) :
    Ev (G 0) (if allB n p then vt else vf) := by
  cases h : allB n p with
  | true =>
    have h := allB_iff.1 h
    rw [if_pos rfl]
    exact Ev.up G n (fun i hi => yes i vt hi (h i hi)) stop
  | false =>
    obtain ⟨j, hj, hp, hl⟩ := least_false (allB_false.1 h)
    rw [if_neg (by simp)]
    exact Ev.up G j (fun i hi => yes i vf (by omega) (hl i hi)) (no j hj hp)
def ivAt (L : List Iv) (i : Nat) : Bool := decide (-1000 ≤ Lf L i ∧ Lf L i ≤ Rt L i ∧ Rt L i ≤ 1000)
def ivOk (L : List Iv) : Bool := allB L.length (ivAt L) && decide ((L.length : Int) ≤ 10)
theorem ivOk_iff {L : List Iv} : ivOk L = true ↔ (∀ i, i < L.length → -1000 ≤ Lf L i ∧ Lf L i ≤ Rt L i ∧ Rt L i ≤ 1000) ∧ L.length ≤ 10 := by
  unfold ivOk ivAt
  rw [Bool.and_eq_true, allB_iff, decide_eq_true_iff]
  constructor
  · rintro ⟨H, h⟩
    exact ⟨fun i hi => of_decide_eq_true (H i hi), by omega⟩
  · rintro ⟨H, h⟩
    exact ⟨fun i hi => decide_eq_true (H i hi), by omega⟩
theorem AreIntervals_ev (L : List Iv) (hl : L.length ≤ 1048576) : Ev (fun k => Aas.f k L) (ivOk L) := by
  unfold Aas.f ivOk
  refine Ev.to (Ev.allv2 (fun i k => Aas.l0 k L L (L.length : Int) (i : Int)) L.length (ivAt L) (decide ((L.length : Int) ≤ 10)) false ?_ ?_ ?_) (if_and _ _)
  · intro i r hi hp next
    have hp : -1000 ≤ Lf L i ∧ Lf L i ≤ Rt L i ∧ Rt L i ≤ 1000 := of_decide_eq_true hp
    refine Ev.step (fun _ => rfl) ?_
    simp only [Aas.l0, if_pos (show (i : Int) < (L.length : Int) by omega), if_pos (show (0 : Int) ≤ (i : Int) by omega), rd_iv0, rd_iv1, within_eq, Option.bind_some, decide_eq_true (show -1000 ≤ Lf L i ∧ Lf L i ≤ 1000 by omega), decide_eq_true (show Lf L i ≤ Rt L i ∧ Rt L i ≤ 1000 by omega), if_true, next64 i L.length hi (by omega)]
    exact next
  · intro i hi hp
    have hp : ¬ (-1000 ≤ Lf L i ∧ Lf L i ≤ Rt L i ∧ Rt L i ≤ 1000) := of_decide_eq_false hp
    refine Ev.step (fun _ => rfl) ?_
    by_cases c : -1000 ≤ Lf L i ∧ Lf L i ≤ 1000
    · simp only [Aas.l0, if_pos (show (i : Int) < (L.length : Int) by omega), if_pos (show (0 : Int) ≤ (i : Int) by omega), rd_iv0, rd_iv1, within_eq, Option.bind_some, decide_eq_true c, decide_eq_false (show ¬ (Lf L i ≤ Rt L i ∧ Rt L i ≤ 1000) by omega), if_true, Bool.false_eq_true, if_false]
      exact Ev.now _
    · simp only [Aas.l0, if_pos (show (i : Int) < (L.length : Int) by omega), if_pos (show (0 : Int) ≤ (i : Int) by omega), rd_iv0, within_eq, Option.bind_some, decide_eq_false c, Bool.false_eq_true, if_false]
      exact Ev.now _
  · refine Ev.step (fun _ => rfl) ?_
    simp only [Aas.l0, if_neg (show ¬ (L.length : Int) < (L.length : Int) by omega)]
    exact Ev.now _
theorem ivGood_ev (L : List Iv) (hl : L.length ≤ 1048576) : Ev (fun k => Aa9.f k L) (ivOk L) := by
  unfold Aa9.f ivOk
  refine Ev.to (Ev.allv2 (fun i k => Aa9.l0 k L L (L.length : Int) (i : Int)) L.length (ivAt L) (decide ((L.length : Int) ≤ 10)) false ?_ ?_ ?_) (if_and _ _)
  · intro i r hi hp next
    have hp : -1000 ≤ Lf L i ∧ Lf L i ≤ Rt L i ∧ Rt L i ≤ 1000 := of_decide_eq_true hp
    refine Ev.step (fun _ => rfl) ?_
    simp only [Aa9.l0, if_pos (show (i : Int) < (L.length : Int) by omega), if_pos (show (0 : Int) ≤ (i : Int) by omega), rd_iv0, rd_iv1, l1In_eq, Option.bind_some, decide_eq_true (show -1000 ≤ Lf L i ∧ Lf L i ≤ Rt L i by omega), if_true, if_neg (show ¬ Rt L i > 1000 by omega), next64 i L.length hi (by omega)]
    exact next
  · intro i hi hp
    have hp : ¬ (-1000 ≤ Lf L i ∧ Lf L i ≤ Rt L i ∧ Rt L i ≤ 1000) := of_decide_eq_false hp
    refine Ev.step (fun _ => rfl) ?_
    by_cases c : -1000 ≤ Lf L i ∧ Lf L i ≤ Rt L i
    · simp only [Aa9.l0, if_pos (show (i : Int) < (L.length : Int) by omega), if_pos (show (0 : Int) ≤ (i : Int) by omega), rd_iv0, rd_iv1, l1In_eq, Option.bind_some, decide_eq_true c, if_true, if_pos (show Rt L i > 1000 by omega)]
      exact Ev.now _
    · simp only [Aa9.l0, if_pos (show (i : Int) < (L.length : Int) by omega), if_pos (show (0 : Int) ≤ (i : Int) by omega), rd_iv0, rd_iv1, l1In_eq, Option.bind_some, decide_eq_false c, Bool.false_eq_true, if_false]
      exact Ev.now _
  · refine Ev.step (fun _ => rfl) ?_
    simp only [Aa9.l0, if_neg (show ¬ (L.length : Int) < (L.length : Int) by omega)]
    exact Ev.now _
def ivR (L : List Iv) : List Int := relL L.length fun i j => decide (Rt L i < Lf L j)
theorem orderOf_ev (L : List Iv) (hl : L.length ≤ 62) : Ev (fun k => Ab3.f k L) ((L.length : Int), ivR L) := by
  unfold Ab3.f
  refine Ev.bind (relation_ev L.length hl (fun _ x y => Abw.f x y L) (fun i j => decide (Rt L i < Lf L j)) ?_) (Ev.now _)
  intro i j hi hj
  refine Ev.const ?_
  unfold Abw.f
  simp only [if_pos (show (0 : Int) ≤ (i : Int) by omega), if_pos (show (0 : Int) ≤ (j : Int) by omega), if_pos (show (i : Int) < (L.length : Int) by omega), if_pos (show (j : Int) < (L.length : Int) by omega), rd_iv0, rd_iv1]
theorem ivOrder_ev (L : List Iv) (hl : L.length ≤ 62) : Ev (fun k => Aa0.f k L) ((L.length : Int), ivR L) := by
  unfold Aa0.f
  have h0 : Ev (fun k => Aa0.l0 k L L (L.length : Int) ((0 : Nat) : Int) (L.length : Int) ((List.range 0).map fun i => ((setOf L.length fun j => decide (Rt L i < Lf L j) : Nat) : Int))) ((L.length : Int), ivR L) := by
    refine Ev.up (fun i k => Aa0.l0 k L L (L.length : Int) (i : Int) (L.length : Int) ((List.range i).map fun i => ((setOf L.length fun j => decide (Rt L i < Lf L j) : Nat) : Int))) L.length ?_ ?_
    · intro i hi next
      refine Ev.step (fun _ => rfl) ?_
      simp only [Aa0.l0, if_pos (show (i : Int) < (L.length : Int) by omega), if_pos (show (0 : Int) ≤ (i : Int) by omega), rd_iv0, rd_iv1]
      refine Ev.up (fun j k => Aa0.l1 k L ((setOf j fun j => decide (Rt L i < Lf L j) : Nat) : Int) L (L.length : Int) (i : Int) L (L.length : Int) (j : Int) (L.length : Int) ((List.range i).map fun i => ((setOf L.length fun j => decide (Rt L i < Lf L j) : Nat) : Int)) (Lf L i) (Rt L i)) L.length ?_ ?_
      · intro j hj next
        refine Ev.step (fun _ => rfl) ?_
        rw [setOf_bit_or] at next
        have h2 : (2 : Nat) ^ j < 9223372036854775808 := Nat.lt_of_le_of_lt (Nat.pow_le_pow_right (by decide) (by omega : j ≤ 62)) (by decide)
        have h1 := setOf_62 j (fun j => decide (Rt L i < Lf L j)) (by omega)
        by_cases c : Rt L i < Lf L j
        · rw [decide_eq_true c, if_pos rfl] at next
          simp only [Aa0.l1, if_pos (show (j : Int) < (L.length : Int) by omega), if_pos (show (0 : Int) ≤ (j : Int) by omega), rd_iv0, if_pos c, shl1 j (by omega), or_i64 _ _ h1 h2, next64 j L.length hj (by omega)]
          exact next
        · rw [decide_eq_false c, if_neg (by simp)] at next
          simp only [Aa0.l1, if_pos (show (j : Int) < (L.length : Int) by omega), if_pos (show (0 : Int) ≤ (j : Int) by omega), rd_iv0, if_neg c, next64 j L.length hj (by omega)]
          exact next
      · refine Ev.step (fun _ => rfl) ?_
        simp only [Aa0.l1, if_neg (show ¬ (L.length : Int) < (L.length : Int) by omega), List.length_map, List.length_range, if_pos (show i < 17592186044416 by omega), next64 i L.length hi (by omega)]
        simpa [List.range_succ] using next
    · refine Ev.step (fun _ => rfl) ?_
      simp only [Aa0.l0, if_neg (show ¬ (L.length : Int) < (L.length : Int) by omega)]
      exact Ev.now _
  exact h0
theorem ivR_B {L : List Iv} (i j : Nat) : B (ivR L) i j = true ↔ i < L.length ∧ j < L.length ∧ Rt L i < Lf L j := by
  unfold ivR
  rw [relL_B, Bool.and_eq_true, Bool.and_eq_true, decide_eq_true_iff, decide_eq_true_iff, decide_eq_true_iff]
theorem ivRefuses_eq {n : Nat} {l : List Int} (h : Rel n l) (a b c d : Nat) (ha : a < n) (hb : b < n) (hc : c < n) (hd : d < n) : Abz.f (n : Int) l (a : Int) (b : Int) (c : Int) (d : Int) = some (hit22 l a b c d) := by
  have hn := h.le
  unfold Abz.f hit22
  have e : ∀ x y, (row l x).testBit y = B l x y := fun _ _ => rfl
  simp only [if_pos (show (0 : Int) ≤ (a : Int) by omega), if_pos (show (0 : Int) ≤ (c : Int) by omega), h.len, if_pos (show (a : Int) < (n : Int) by omega), if_pos (show (c : Int) < (n : Int) by omega), h.rd, orHas_eq _ b (by omega), orHas_eq _ d (by omega), Option.bind_some, e]
  cases B l a b <;> cases B l c d <;> cases B l c b <;> cases B l a d <;> rfl
theorem ivTwoTwo_ev {n : Nat} {l : List Int} (h : Rel n l) : EvP (fun k => Aam.f k (n : Int) l) (fun r => r.2 = false) (∀ a, a < n → ∀ b, b < n → ∀ c, c < n → ∀ d, d < n → hit22 l a b c d = false) := by
  have hn := h.le
  unfold Aam.f
  refine EvP.iff (EvP.loop (fun a k => Aam.l0 k (a : Int) (n : Int) l) n (fun a => ∀ b, b < n → ∀ c, c < n → ∀ d, d < n → hit22 l a b c d = false) True ?_ ?_) (by rw [and_true])
  · intro a T ha next
    refine EvP.step (fun _ => rfl) ?_
    simp only [Aam.l0, if_pos (show (a : Int) < (n : Int) by omega)]
    refine EvP.loop (fun b k => Aam.l1 k (a : Int) (b : Int) (n : Int) l) n (fun b => ∀ c, c < n → ∀ d, d < n → hit22 l a b c d = false) T ?_ ?_
    · intro b T hb next
      refine EvP.step (fun _ => rfl) ?_
      simp only [Aam.l1, if_pos (show (b : Int) < (n : Int) by omega)]
      refine EvP.loop (fun c k => Aam.l2 k (a : Int) (b : Int) (c : Int) (n : Int) l) n (fun c => ∀ d, d < n → hit22 l a b c d = false) T ?_ ?_
      · intro c T hc next
        refine EvP.step (fun _ => rfl) ?_
        simp only [Aam.l2, if_pos (show (c : Int) < (n : Int) by omega)]
        refine EvP.loop (fun d k => Aam.l3 k (a : Int) (b : Int) (c : Int) (d : Int) (n : Int) l) n (fun d => hit22 l a b c d = false) T ?_ ?_
        · intro d T hd next
          refine EvP.step (fun _ => rfl) ?_
          simp only [Aam.l3, if_pos (show (d : Int) < (n : Int) by omega), ivRefuses_eq h a b c d ha hb hc hd, Option.bind_some, next64 d n hd (by omega)]
          cases hh : hit22 l a b c d with
          | false => simp only [Bool.false_eq_true, if_false]; exact EvP.iff next (by simp)
          | true => simp only [if_true]; exact EvP.now (by simp)
        · refine EvP.step (fun _ => rfl) ?_
          simp only [Aam.l3, if_neg (show ¬ (n : Int) < (n : Int) by omega), next64 c n hc (by omega)]
          exact next
      · refine EvP.step (fun _ => rfl) ?_
        simp only [Aam.l2, if_neg (show ¬ (n : Int) < (n : Int) by omega), next64 b n hb (by omega)]
        exact next
    · refine EvP.step (fun _ => rfl) ?_
      simp only [Aam.l1, if_neg (show ¬ (n : Int) < (n : Int) by omega), next64 a n ha (by omega)]
      exact next
  · refine EvP.step (fun _ => rfl) ?_
    simp only [Aam.l0, if_neg (show ¬ (n : Int) < (n : Int) by omega)]
    exact EvP.now (by simp)
theorem ivGoodOrder_ev (n : Int) (l : List Int) (hl : l.length ≤ 140737488355328) : Ev (fun k => Abs.f k n l) (isInt n l) := by
  unfold Abs.f isInt Ab4.f
  refine Ev.bind (orGood_ev n l hl) ?_
  cases ho : isOrd n l with
  | false => simp only [Bool.false_eq_true, if_false, Bool.false_and]; exact Ev.now _
  | true =>
    obtain ⟨n, rfl, o⟩ := isOrd_iff.1 ho
    simp only [if_true, Bool.true_and, Int.toNat_natCast]
    obtain ⟨r, hr, e⟩ := ivTwoTwo_ev o.toRel
    refine Ev.bind (a := !r.2) (Ev.bind hr (Ev.now _)) (Ev.to (Ev.now _) ?_)
    rw [Bool.eq_iff_iff, Bool.not_eq_true', no22_iff]
    exact e
theorem ivLevels_ev {n : Nat} {l : List Int} (h : Rel n l) : Ev (fun k => Aal.f k (n : Int) l) (levelsL n (mir n l)) := by
  have hn := h.le
  have hm := mir_rel h
  have hd := dif_length_le (mir n l)
  rw [hm.len] at hd
  have hrow : ∀ i, i < n → row (mir n l) i = setOf n fun j => B l j i := fun i hi => relL_row n _ i hi
  unfold Aal.f
  rw [h.len]
  have second : Ev (fun k => Aal.l1 k (dif (mir n l)) ([] : List Int) (n : Int) 0 (n : Int) l) (levelsL n (mir n l)) := by
    refine Ev.up (fun j k => Aal.l1 k (dif (mir n l)) ((List.range j).map fun j => ((level (dif (mir n l)) (row (mir n l) j) : Nat) : Int)) (n : Int) (j : Int) (n : Int) l) n ?_ ?_
    · intro j hj next
      refine Ev.step (fun _ => rfl) ?_
      simp only [Aal.l1, if_pos (show (j : Int) < (n : Int) by omega)]
      refine Ev.up (fun q k => Aal.l2 k (dif (mir n l)) ((List.range j).map fun j => ((level (dif (mir n l)) (row (mir n l) j) : Nat) : Int)) (j : Int) ((level ((dif (mir n l)).take q) (row (mir n l) j) : Nat) : Int) (n : Int) (j : Int) (dif (mir n l)) ((dif (mir n l)).length : Int) (q : Int) (n : Int) l) (dif (mir n l)).length ?_ ?_
      · intro q hq next
        obtain ⟨i, hi, hs⟩ : ∃ i, i < n ∧ (dif (mir n l)).getD q 0 = ((row (mir n l) i : Nat) : Int) := by
          have hmem : (dif (mir n l)).getD q 0 ∈ dif (mir n l) := by simp [hq]
          rw [mem_dif] at hmem
          rw [hm.rows] at hmem
          obtain ⟨i, hi, e⟩ := List.mem_map.1 hmem
          exact ⟨i, List.mem_range.1 hi, by rw [← hm.rows] at e; exact e.symm⟩
        have hlv := level_le ((dif (mir n l)).take q) (row (mir n l) j)
        rw [List.length_take] at hlv
        rw [take_next q hq, level_snoc, hs, Int.toNat_natCast] at next
        refine Ev.step (fun _ => rfl) ?_
        simp only [Aal.l2, if_pos (show (q : Int) < ((dif (mir n l)).length : Int) by omega), if_pos (show (0 : Int) ≤ (q : Int) by omega), rd_nat, hs, next64 q _ hq (by omega)]
        refine Ev.bind (orBelow_ev h _ j (by omega)) ?_
        rw [← hrow j hj]
        by_cases c : row (mir n l) i = row (mir n l) j
        · rw [if_neg (fun h => h.1 (by omega))] at next
          simp only [if_pos (show ((row (mir n l) i : Nat) : Int) = ((row (mir n l) j : Nat) : Int) by omega)]
          exact next
        · simp only [if_neg (show ¬ ((row (mir n l) i : Nat) : Int) = ((row (mir n l) j : Nat) : Int) by omega)]
          refine Ev.bind (orBelow_ev h _ j (by omega)) ?_
          rw [← hrow j hj, andNot_i64 _ _ (hm.row_62 i) (hm.row_62 j)]
          by_cases c2 : diff (row (mir n l) i) (row (mir n l) j) = 0
          · rw [if_pos ⟨by omega, c2⟩] at next
            simp only [if_pos (show ((diff (row (mir n l) i) (row (mir n l) j) : Nat) : Int) = 0 by omega), next64 (level ((dif (mir n l)).take q) (row (mir n l) j)) 1048576 (by omega) (by omega)]
            exact next
          · rw [if_neg (fun h => c2 h.2)] at next
            simp only [if_neg (show ¬ ((diff (row (mir n l) i) (row (mir n l) j) : Nat) : Int) = 0 by omega)]
            exact next
      · refine Ev.step (fun _ => rfl) ?_
        simp only [Aal.l2, if_neg (show ¬ ((dif (mir n l)).length : Int) < ((dif (mir n l)).length : Int) by omega), List.length_map, List.length_range, if_pos (show j < 17592186044416 by omega), List.take_length, next64 j n hj (by omega)]
        simpa [List.range_succ] using next
    · refine Ev.step (fun _ => rfl) ?_
      simp only [Aal.l1, if_neg (show ¬ (n : Int) < (n : Int) by omega)]
      exact Ev.now _
  have first : Ev (fun k => Aal.l0 k (dif ((mir n l).take 0)) (n : Int) ((0 : Nat) : Int) (n : Int) l) (levelsL n (mir n l)) := by
    refine Ev.up (fun i k => Aal.l0 k (dif ((mir n l).take i)) (n : Int) (i : Int) (n : Int) l) n ?_ ?_
    · intro i hi next
      have hd2 := dif_length_le ((mir n l).take i)
      rw [List.length_take] at hd2
      refine Ev.step (fun _ => rfl) ?_
      simp only [Aal.l0, if_pos (show (i : Int) < (n : Int) by omega)]
      refine Ev.bind (orBelow_ev h _ i (by omega)) ?_
      refine Ev.bind (l1Put_ev _ _ (by omega)) ?_
      simp only [next64 i n hi (by omega)]
      have e : dif ((mir n l).take (i + 1)) = ins ((setOf n fun j => B l j i : Nat) : Int) (dif ((mir n l).take i)) := by
        rw [take_next i (by rw [hm.len]; exact hi), hm.getD, hrow i hi]
        unfold dif
        rw [List.foldl_append]
        rfl
      rw [e] at next
      exact next
    · refine Ev.step (fun _ => rfl) ?_
      simp only [Aal.l0, if_neg (show ¬ (n : Int) < (n : Int) by omega), h.len]
      rw [show (mir n l).take n = mir n l by rw [List.take_of_length_le]; rw [hm.len]; exact Nat.le_refl _]
      exact second
  exact first
def LV (n : Nat) (l : List Int) (i : Nat) : Nat := level (dif (mir n l)) (row (mir n l) i)
theorem levelsL_rd {n : Nat} {l : List Int} (i : Nat) (hi : i < n) : rd (levelsL n (mir n l)) (i : Int) = ((LV n l i : Nat) : Int) := by
  rw [rd_nat]
  simp [levelsL, LV, hi]
def rgt (n : Nat) (l : List Int) (i : Nat) : Nat → Int
  | 0 => ((LV n l i : Nat) : Int)
  | j + 1 => if B l i j then rgt n l i j else mx (rgt n l i j) ((LV n l j : Nat) : Int)
def endsL (n : Nat) (l : List Int) : List Iv := (List.range n).map fun i => (⟨((LV n l i : Nat) : Int), rgt n l i n⟩ : Iv)
theorem endsL_length (n : Nat) (l : List Int) : (endsL n l).length = n := by simp [endsL]
theorem ends_ev {n : Nat} {l : List Int} (h : Rel n l) : Ev (fun k => Aao.f k (n : Int) l) (endsL n l) := by
  have hn := h.le
  have hlen : (levelsL n (mir n l)).length = n := by simp [levelsL]
  unfold Aao.f
  refine Ev.bind (levels_ev h) ?_
  rw [hlen]
  refine Ev.up (fun i k => Aao.l0 k ((List.range i).map fun i => (⟨((LV n l i : Nat) : Int), rgt n l i n⟩ : Iv)) (levelsL n (mir n l)) (levelsL n (mir n l)) (n : Int) (i : Int) (n : Int) l) n ?_ ?_
  · intro i hi next
    refine Ev.step (fun _ => rfl) ?_
    simp only [Aao.l0, if_pos (show (i : Int) < (n : Int) by omega), if_pos (show (0 : Int) ≤ (i : Int) by omega), hlen, levelsL_rd i hi]
    refine Ev.up (fun j k => Aao.l1 k ((List.range i).map fun i => (⟨((LV n l i : Nat) : Int), rgt n l i n⟩ : Iv)) (levelsL n (mir n l)) (i : Int) ((LV n l i : Nat) : Int) (rgt n l i j) (levelsL n (mir n l)) (n : Int) (i : Int) (levelsL n (mir n l)) (n : Int) (j : Int) (n : Int) l) n ?_ ?_
    · intro j hj next
      refine Ev.step (fun _ => rfl) ?_
      simp only [Aao.l1, if_pos (show (j : Int) < (n : Int) by omega), if_pos (show (0 : Int) ≤ (j : Int) by omega), hlen, better_eq h _ i j hi (by omega), Option.bind_some, levelsL_rd j hj, next64 j n hj (by omega)]
      rw [rgt] at next
      cases hb : B l i j with
      | true => rw [hb, if_pos rfl] at next; simp only [if_true]; exact next
      | false => rw [hb, if_neg (by simp)] at next; simp only [Bool.false_eq_true, if_false]; exact next
    · refine Ev.step (fun _ => rfl) ?_
      simp only [Aao.l1, if_neg (show ¬ (n : Int) < (n : Int) by omega), List.length_map, List.length_range, if_pos (show i < 8796093022208 by omega), next64 i n hi (by omega)]
      simpa [List.range_succ] using next
  · refine Ev.step (fun _ => rfl) ?_
    simp only [Aao.l0, if_neg (show ¬ (n : Int) < (n : Int) by omega)]
    exact Ev.now _
theorem l1Most_eq (a b : Int) : Ab2.f a b = some (mx a b) := by
  unfold Ab2.f mx
  by_cases c : a > b
  · rw [if_pos c, if_neg (by omega)]
  · rw [if_neg c]
    by_cases c2 : a < b
    · rw [if_pos c2]
    · rw [if_neg c2, show a = b by omega]
theorem ivEnds_ev {n : Nat} {l : List Int} (h : Rel n l) : Ev (fun k => Aax.f k (n : Int) l) (endsL n l) := by
  have hn := h.le
  have hlen : (levelsL n (mir n l)).length = n := by simp [levelsL]
  unfold Aax.f
  refine Ev.bind (ivLevels_ev h) ?_
  rw [hlen]
  refine Ev.up (fun i k => Aax.l0 k (levelsL n (mir n l)) ((List.range i).map fun i => (⟨((LV n l i : Nat) : Int), rgt n l i n⟩ : Iv)) (levelsL n (mir n l)) (n : Int) (i : Int) (n : Int) l) n ?_ ?_
  · intro i hi next
    refine Ev.step (fun _ => rfl) ?_
    simp only [Aax.l0, if_pos (show (i : Int) < (n : Int) by omega), if_pos (show (0 : Int) ≤ (i : Int) by omega), hlen, levelsL_rd i hi]
    refine Ev.up (fun j k => Aax.l1 k (levelsL n (mir n l)) ((List.range i).map fun i => (⟨((LV n l i : Nat) : Int), rgt n l i n⟩ : Iv)) (i : Int) (levelsL n (mir n l)) (n : Int) (i : Int) (levelsL n (mir n l)) (n : Int) (j : Int) (n : Int) l ((LV n l i : Nat) : Int) (rgt n l i j)) n ?_ ?_
    · intro j hj next
      refine Ev.step (fun _ => rfl) ?_
      simp only [Aax.l1, if_pos (show (j : Int) < (n : Int) by omega), if_pos (show (0 : Int) ≤ (j : Int) by omega), if_pos (show (0 : Int) ≤ (i : Int) by omega), if_pos (show (i : Int) < (n : Int) by omega), hlen, h.len, h.rd, orHas_eq _ j (by omega), Option.bind_some, levelsL_rd j hj, l1Most_eq, next64 j n hj (by omega)]
      rw [show (row l i).testBit j = B l i j from rfl]
      rw [rgt] at next
      cases hb : B l i j with
      | true => rw [hb, if_pos rfl] at next; simp only [if_true]; exact next
      | false => rw [hb, if_neg (by simp)] at next; simp only [Bool.false_eq_true, if_false]; exact next
    · refine Ev.step (fun _ => rfl) ?_
      simp only [Aax.l1, if_neg (show ¬ (n : Int) < (n : Int) by omega), List.length_map, List.length_range, if_pos (show i < 8796093022208 by omega), next64 i n hi (by omega)]
      simpa [List.range_succ] using next
  · refine Ev.step (fun _ => rfl) ?_
    simp only [Aax.l0, if_neg (show ¬ (n : Int) < (n : Int) by omega)]
    exact Ev.now _
def endsOf (n : Int) (l : List Int) : List Iv × Bool := if isInt n l then (endsL n.toNat l, true) else ([], false)
theorem isInt_ord {n : Int} {l : List Int} (h : isInt n l = true) : isOrd n l = true := by
  unfold isInt at h
  rw [Bool.and_eq_true] at h
  exact h.1
theorem EndsOf_ev (n : Int) (l : List Int) (hl : l.length ≤ 140737488355328) : Ev (fun k => Abe.f k n l) (endsOf n l) := by
  unfold Abe.f endsOf
  refine Ev.bind (isInterval_ev n l hl) ?_
  cases hs : isInt n l with
  | false => simp only [Bool.false_eq_true, if_false]; exact Ev.now _
  | true =>
    obtain ⟨n, rfl, o⟩ := isOrd_iff.1 (isInt_ord hs)
    simp only [if_true, Int.toNat_natCast]
    exact Ev.bind (ends_ev o.toRel) (Ev.now _)
theorem sEndsOf_ev (n : Int) (l : List Int) (hl : l.length ≤ 140737488355328) : Ev (fun k => Abp.f k n l) (endsOf n l) := by
  unfold Abp.f endsOf
  refine Ev.bind (ivGoodOrder_ev n l hl) ?_
  cases hs : isInt n l with
  | false => simp only [Bool.false_eq_true, if_false]; exact Ev.now _
  | true =>
    obtain ⟨n, rfl, o⟩ := isOrd_iff.1 (isInt_ord hs)
    simp only [if_true, Int.toNat_natCast]
    exact Ev.bind (ivEnds_ev o.toRel) (Ev.now _)
section
variable {n : Nat} {l : List Int}
theorem LV_rank (h : Rel n l) (h22 : no22 n l = true) (i : Nat) (hi : i < n) : LV n l i = rank (mir n l) ((row (mir n l) i : Nat) : Int) := by
  have hm := mir_rel h
  have hbit : ∀ a x, (row (mir n l) a).testBit x = B l x a := fun a x => mir_B h a x
  have h22' : ∀ a b c d, hit22 l a b c d = false := by
    intro a b c d
    cases hc : hit22 l a b c d with
    | false => rfl
    | true =>
      have hc' := hc
      unfold hit22 at hc'
      rw [Bool.and_eq_true, Bool.and_eq_true] at hc'
      rw [no22_iff.1 h22 a (h.B_lt' hc'.1) b (h.B_lt hc'.1) c (h.B_lt' hc'.2.1) d (h.B_lt hc'.2.1)] at hc
      cases hc
  have := levels_rank n (row (mir n l)) (fun i => ((row (mir n l) i : Nat) : Int)) ?_ ?_ i hi
  · rw [← hm.rows] at this
    exact this
  · intro a b _ _ hab
    refine ⟨?_, by omega⟩
    refine Classical.byContradiction fun hne => ?_
    obtain ⟨x, hx1, hx2⟩ : ∃ x, (row (mir n l) a).testBit x = true ∧ (row (mir n l) b).testBit x = false := by
      refine Classical.byContradiction fun hno => hne ((diff_zero _ _).2 fun x hx => ?_)
      cases hb : (row (mir n l) b).testBit x with
      | true => rfl
      | false => exact (hno ⟨x, hx, hb⟩).elim
    rw [hbit] at hx1 hx2
    have hsub := semi_below h22' hx1 hx2
    have : diff (row (mir n l) b) (row (mir n l) a) = 0 := by
      rw [diff_zero]
      intro k hk
      rw [hbit] at hk ⊢
      exact hsub k hk
    have := diff_le this
    omega
  · intro a b _ _ hab
    omega
theorem mir_mem (h : Rel n l) (i : Nat) (hi : i < n) : ((row (mir n l) i : Nat) : Int) ∈ mir n l := by
  have hm := mir_rel h
  rw [← hm.getD]
  have : i < (mir n l).length := by rw [hm.len]; exact hi
  simp [this]
theorem mir_of_mem (h : Rel n l) {z : Int} (hz : z ∈ mir n l) : ∃ k, k < n ∧ z = ((row (mir n l) k : Nat) : Int) := by
  rw [(mir_rel h).rows] at hz
  obtain ⟨k, hk, e⟩ := List.mem_map.1 hz
  exact ⟨k, List.mem_range.1 hk, e.symm⟩
theorem LV_lt (h : Rel n l) (h22 : no22 n l = true) (i j : Nat) (hi : i < n) (hj : j < n) : LV n l i < LV n l j ↔ row (mir n l) i < row (mir n l) j := by
  rw [LV_rank h h22 i hi, LV_rank h h22 j hj, rank_lt_iff (mir_mem h i hi) (mir_mem h j hj)]
  omega
theorem LV_of (h : Rel n l) (h22 : no22 n l = true) (i j x : Nat) (hi : i < n) (hj : j < n) (h1 : B l x j = true) (h2 : B l x i = false) : LV n l i < LV n l j := by
  have hbit : ∀ a x, (row (mir n l) a).testBit x = B l x a := fun a x => mir_B h a x
  refine Classical.byContradiction fun hno => ?_
  have hle : LV n l j ≤ LV n l i := by omega
  have h3 : row (mir n l) j ≤ row (mir n l) i := by
    have := LV_lt h h22 i j hi hj
    omega
  have h22' : ∀ k, B l k i = true → B l k j = true := by
    intro k hk
    cases hb : B l k j with
    | true => rfl
    | false =>
      have := no22_iff.1 h22 k (h.B_lt' hk) i hi x (h.B_lt' h1) j hj
      simp [hit22, h1, h2, hk, hb] at this
  have h4 : diff (row (mir n l) i) (row (mir n l) j) = 0 := by
    rw [diff_zero]
    intro k hk
    rw [hbit] at hk ⊢
    exact h22' k hk
  have h5 := diff_le h4
  have h6 : row (mir n l) i = row (mir n l) j := by omega
  have := hbit i x
  rw [h6, hbit, h1, h2] at this
  cases this
theorem mx_lt (a b y : Int) : mx a b < y ↔ a < y ∧ b < y := by
  unfold mx
  split <;> omega
theorem rgt_lt (i j : Nat) (y : Int) : rgt n l i j < y ↔ ((LV n l i : Nat) : Int) < y ∧ ∀ k, k < j → B l i k = false → ((LV n l k : Nat) : Int) < y := by
  induction j with
  | zero => simp [rgt]
  | succ j ih =>
    rw [rgt]
    cases hb : B l i j with
    | true =>
      rw [if_pos rfl, ih]
      constructor
      · rintro ⟨h1, h2⟩
        refine ⟨h1, fun k hk hbk => ?_⟩
        by_cases e : k = j
        · rw [e, hb] at hbk; cases hbk
        · exact h2 k (by omega) hbk
      · rintro ⟨h1, h2⟩
        exact ⟨h1, fun k hk => h2 k (by omega)⟩
    | false =>
      rw [if_neg (by simp), mx_lt, ih]
      constructor
      · rintro ⟨⟨h1, h2⟩, h3⟩
        refine ⟨h1, fun k hk hbk => ?_⟩
        by_cases e : k = j
        · rw [e]; exact h3
        · exact h2 k (by omega) hbk
      · rintro ⟨h1, h2⟩
        exact ⟨⟨h1, fun k hk => h2 k (by omega)⟩, h2 j (by omega) hb⟩
theorem ends_rep (o : Ord n l) (h22 : no22 n l = true) (i j : Nat) (hi : i < n) (hj : j < n) : rgt n l i n < ((LV n l j : Nat) : Int) ↔ B l i j = true := by
  have h := o.toRel
  rw [rgt_lt]
  constructor
  · rintro ⟨_, H⟩
    cases hb : B l i j with
    | true => rfl
    | false => have := H j hj hb; omega
  · intro hb
    have key : ∀ k, k < n → B l i k = false → ((LV n l k : Nat) : Int) < ((LV n l j : Nat) : Int) := by
      intro k hk hbk
      have := LV_of h h22 k j i hk hj hb hbk
      omega
    exact ⟨key i hi (o.irr i), key⟩
theorem LV_le (h : Rel n l) (i : Nat) : LV n l i ≤ 10 := by
  have := level_le (dif (mir n l)) (row (mir n l) i)
  have h2 := dif_length_le (mir n l)
  have h3 := (mir_rel h).len
  have h4 := h.le
  unfold LV
  omega
theorem endsL_f0 (i : Nat) (hi : i < n) : Lf (endsL n l) i = ((LV n l i : Nat) : Int) := by simp [Lf, endsL, hi]
theorem endsL_f1 (i : Nat) (hi : i < n) : Rt (endsL n l) i = rgt n l i n := by simp [Rt, endsL, hi]
theorem endsL_ok (h : Rel n l) : ivOk (endsL n l) = true := by
  rw [ivOk_iff, endsL_length]
  refine ⟨fun i hi => ?_, h.le⟩
  rw [endsL_f0 i hi, endsL_f1 i hi]
  have h1 : ¬ rgt n l i n < ((LV n l i : Nat) : Int) := fun hlt => by
    have := ((rgt_lt i n _).1 hlt).1
    omega
  have h2 : rgt n l i n < 11 := (rgt_lt i n 11).2 ⟨by have := LV_le h i; omega, fun k _ _ => by have := LV_le h k; omega⟩
  omega
end
end Go.Proofs.YtimjblnglhmakaaDoor.M
namespace Go.Proofs.YtimjblnglhmakaaDoor.P
open Go.RowKit Go.Proofs.YtimjblnglhmakaaDoorW.PrintWords Go.Proofs.YtimjblnglhmakaaDoorW.PrintLast Go.Proofs.YtimjblnglhmakaaDoorW.PrintMore
open Bool renaming true → T, false → F
open List renaming setIfInBounds_toArray → L_, set_cons_zero → M_, set_cons_succ → N_, map_toArray → P_, map_cons → Q_, map_nil → R_, length_drop → S_, length_take → U_
open Aside0 renaming mk → A_
attribute [local go_sem] max2_int min2_int max_two min_two max_three min_three max_four min_four
set_option linter.unusedVariables false
set_option linter.unusedSimpArgs false
attribute [local go_sem] fldOrder_0 fldOrder_1
end Go.Proofs.YtimjblnglhmakaaDoor.P
namespace Go.Proofs.YtimjblnglhmakaaDoor.P
open Go.RowKit Go.Proofs.YtimjblnglhmakaaDoorW.PrintWords Go.Proofs.YtimjblnglhmakaaDoorW.PrintLast Go.Proofs.YtimjblnglhmakaaDoorW.PrintMore
open Bool renaming true → T, false → F
open List renaming setIfInBounds_toArray → L_, set_cons_zero → M_, set_cons_succ → N_, map_toArray → P_, map_cons → Q_, map_nil → R_, length_drop → S_, length_take → U_
open Aside0 renaming mk → A_
attribute [local go_sem] max2_int min2_int max_two min_two max_three min_three max_four min_four
set_option linter.unusedVariables false
set_option linter.unusedSimpArgs false
attribute [local go_sem] fldOrder_0 fldOrder_1
end Go.Proofs.YtimjblnglhmakaaDoor.P
namespace Go.Proofs.YtimjblnglhmakaaDoor.M
open Go.RowKit Go.Proofs.YtimjblnglhmakaaDoorW.PrintMore Go.Proofs.YtimjblnglhmakaaDoorW.PrintLast Go.Proofs.YtimjblnglhmakaaDoorW.PrintWords Go.Proofs.YtimjblnglhmakaaDoor.P
set_option maxRecDepth 4000
def ivEq (L M : List Iv) (i : Nat) : Bool := decide (Lf L i = Lf M i) && decide (Rt L i = Rt M i)
def sameIv (L M : List Iv) : Bool := decide (L.length = M.length) && allB L.length (ivEq L M)
theorem sameIv_refl (L : List Iv) : sameIv L L = true := by
  unfold sameIv ivEq
  rw [decide_eq_true rfl, Bool.true_and, allB_iff]
  intro i _
  simp
theorem ne_test (a b c d : Int) : ((!(a == b)) || (!(c == d))) = !(decide (a = b) && decide (c = d)) := by
  by_cases h1 : a = b
  · by_cases h2 : c = d
    · simp [h1, h2]
    · simp [h1, h2]
  · simp [h1]
theorem pSameIntervals_ev (L M : List Iv) (hl : L.length ≤ 1048576) : Ev (fun k => Aar.f k L M) (sameIv L M) := by
  unfold Aar.f sameIv
  by_cases h : (L.length : Int) = (M.length : Int)
  · simp only [if_pos h]
    rw [decide_eq_true (show L.length = M.length by omega), Bool.true_and]
    refine Ev.all (fun i k => Aar.l0 k L M (L.length : Int) (i : Int)) L.length (ivEq L M) ?_ ?_ ?_
    · intro i r hi hp next
      refine Ev.step (fun _ => rfl) ?_
      simp only [Aar.l0, if_pos (show (i : Int) < (L.length : Int) by omega), if_pos (show (0 : Int) ≤ (i : Int) by omega), if_pos (show (i : Int) < (M.length : Int) by omega), rd_iv0, rd_iv1, ne_test, show (decide (Lf L i = Lf M i) && decide (Rt L i = Rt M i)) = true from hp, Bool.not_true, Bool.false_eq_true, if_false, next64 i L.length hi (by omega)]
      exact next
    · intro i hi hp
      refine Ev.step (fun _ => rfl) ?_
      simp only [Aar.l0, if_pos (show (i : Int) < (L.length : Int) by omega), if_pos (show (0 : Int) ≤ (i : Int) by omega), if_pos (show (i : Int) < (M.length : Int) by omega), rd_iv0, rd_iv1, ne_test, show (decide (Lf L i = Lf M i) && decide (Rt L i = Rt M i)) = false from hp, Bool.not_false, if_true]
      exact Ev.now _
    · refine Ev.step (fun _ => rfl) ?_
      simp only [Aar.l0, if_neg (show ¬ (L.length : Int) < (L.length : Int) by omega)]
      exact Ev.now _
  · simp only [if_neg h]
    exact Ev.to (Ev.now _) (by rw [decide_eq_false (fun e => h (by rw [e]))]; rfl)
theorem equalI_same (l : List Int) (hl : l.length ≤ 140737488355328) : Ev (fun k => Aa2.f k l l) true := by
  unfold Aa2.f
  simp only [if_true]
  refine Ev.up (fun i k => Aa2.l0 k l l (l.length : Int) (i : Int)) l.length ?_ ?_
  · intro i hi next
    refine Ev.step (fun _ => rfl) ?_
    simp only [Aa2.l0, if_pos (show (i : Int) < (l.length : Int) by omega), if_pos (show (0 : Int) ≤ (i : Int) by omega), if_true, next64 i l.length hi (by omega)]
    exact next
  · refine Ev.step (fun _ => rfl) ?_
    simp only [Aa2.l0, if_neg (show ¬ (l.length : Int) < (l.length : Int) by omega)]
    exact Ev.now _
theorem DoRepresent_yes {n : Nat} {l : List Int} (o : Ord n l) (L : List Iv) (hL : ivOk L = true) (hlen : L.length = n) (he : ivR L = l) : Ev (fun k => Aau.f k L (n : Int) l) (true, true) := by
  have hn := o.le
  unfold Aau.f
  refine Ev.bind (AreIntervals_ev L (by omega)) ?_
  rw [hL]
  simp only [if_true]
  refine Ev.bind (IsOrder_ev (n : Int) l (by rw [o.len]; omega)) ?_
  rw [isOrd_iff.2 ⟨n, rfl, o⟩]
  refine Ev.step (fun _ => rfl) ?_
  simp only [Aau.j0, Bool.not_true, Bool.false_eq_true, if_false]
  refine Ev.bind (orderOf_ev L (by omega)) ?_
  rw [hlen, he]
  unfold Aby.f
  simp only [if_true]
  exact Ev.bind (Ev.bind (equalI_same l (by rw [o.len]; omega)) (Ev.now _)) (Ev.now _)
theorem intervals2_tot {l : List Int} (hb : By l) : Tot (fun k => Aak.f k l 0 0 7) (fun r => r.1.length ≤ 20 ∧ 0 ≤ r.2.1 ∧ r.2.1 ≤ 200) := by
  unfold Aak.f
  rw [show wrap64 (7 + 1) = 8 from by rw [wrap64_in _ (by omega) (by omega)]; rfl]
  refine Tot.obind (pick_ok hb 0 0 8 (by omega) (by omega)) ?_
  rintro ⟨c, p1, h1⟩ ⟨c0, c1, c2, c3⟩
  simp only at c0 c1 c2 c3
  obtain ⟨n, rfl⟩ := Int.eq_ofNat_of_zero_le c0
  have hn : n ≤ 8 := by omega
  have h0 := Tot.up (Q := fun r : List Iv × Int × Int => r.1.length ≤ 20 ∧ 0 ≤ r.2.1 ∧ r.2.1 ≤ 200) (fun i (s : List Iv × Int × Int) k => Aak.l0 k s.1 ((n - i : Nat) : Int) l s.2.1 s.2.2) n (fun i s => s.1.length = i ∧ 0 ≤ s.2.1 ∧ s.2.1 ≤ 2 + 4 * (i : Int)) ?_ ?_ 0 (Nat.zero_le _) ([], p1, h1) ⟨rfl, by simp only; omega, by simp only; omega⟩
  · exact h0
  · rintro i ⟨z, q, g⟩ hi ⟨s1, s2, s3⟩ next
    simp only at s1 s2 s3
    refine Tot.step (fun _ => rfl) ?_
    simp only [Aak.l0, if_pos (show ((n - i : Nat) : Int) > 0 by omega), s1, if_pos (show i < 8796093022208 by omega), show wrap64 (((n - i : Nat) : Int) - 1) = ((n - (i + 1) : Nat) : Int) by rw [wrap64_in _ (by omega) (by omega)]; omega]
    refine Tot.obind (pick_ok hb q g 8 (by omega) (by omega)) ?_
    rintro ⟨v, q2, g2⟩ ⟨v0, v1, v2, v3⟩
    simp only at v0 v1 v2 v3
    refine Tot.obind (pick_ok hb q2 g2 4 (by omega) (by omega)) ?_
    rintro ⟨u, q3, g3⟩ ⟨u0, u1, u2, u3⟩
    simp only at u0 u1 u2 u3
    exact next (_, _, _) ⟨by simp [s1], by simp only; omega, by simp only; omega⟩
  · rintro ⟨z, q, g⟩ ⟨s1, s2, s3⟩
    simp only at s1 s2 s3
    refine Tot.step (fun _ => rfl) ?_
    simp only [Aak.l0, if_neg (show ¬ ((n - n : Nat) : Int) > 0 by omega)]
    refine Tot.obind (pick_ok hb q g 14 (by omega) (by omega)) ?_
    rintro ⟨v, q2, g2⟩ ⟨v0, v1, v2, v3⟩
    simp only at v0 v1 v2 v3
    refine Tot.ite (fun _ => ?_) (fun _ => Tot.ite (fun _ => ?_) (fun _ => Tot.now ⟨by simp only; omega, by simp only; omega, by simp only; omega⟩))
    · refine Tot.obind (among_ok hb q2 g2 _ (by simp) (by omega) (by omega)) ?_
      rintro ⟨a, q3, g3⟩ ⟨_, a1, a2⟩
      simp only at a1 a2
      refine Tot.obind (among_ok hb q3 g3 _ (by simp) (by omega) (by omega)) ?_
      rintro ⟨a', q4, g4⟩ ⟨_, b1, b2⟩
      simp only at b1 b2
      simp only [s1, if_pos (show n < 8796093022208 by omega)]
      exact Tot.now ⟨by simp [s1]; omega, by simp only; omega, by simp only; omega⟩
    · have h1 := Tot.up (Q := fun r : List Iv × Int × Int => r.1.length ≤ 20 ∧ 0 ≤ r.2.1 ∧ r.2.1 ≤ 200) (fun i (s : List Iv × Int × Int) k => Aak.l1 k s.1 l s.2.1 s.2.2) 12 (fun i s => s.1.length = i ∧ 0 ≤ s.2.1 ∧ s.2.1 ≤ 60 + 2 * (i : Int)) ?_ ?_ 0 (Nat.zero_le _) ([], q2, g2) ⟨rfl, by simp only; omega, by simp only; omega⟩
      · exact h1
      · rintro i ⟨z, q, g⟩ hi ⟨t1, t2, t3⟩ next
        simp only at t1 t2 t3
        refine Tot.step (fun _ => rfl) ?_
        simp only [Aak.l1, t1]
        refine Tot.obind (pick_ok hb q g 2 (by omega) (by omega)) ?_
        rintro ⟨v, q5, g5⟩ ⟨w0, w1, w2, w3⟩
        simp only at w0 w1 w2 w3
        refine Tot.ite (fun _ => ?_) (fun _ => Tot.now ⟨by simp only; omega, by simp only; omega, by simp only; omega⟩)
        simp only [if_pos (show i < 8796093022208 by omega)]
        exact next (_, _, _) ⟨by simp [t1], by simp only; omega, by simp only; omega⟩
      · rintro ⟨z, q, g⟩ ⟨t1, t2, t3⟩
        simp only at t1 t2 t3
        refine Tot.step (fun _ => rfl) ?_
        simp only [Aak.l1, t1]
        refine Tot.obind (pick_ok hb q g 2 (by omega) (by omega)) ?_
        rintro ⟨v, q5, g5⟩ ⟨w0, w1, w2, w3⟩
        simp only at w0 w1 w2 w3
        rw [wrap64_in (10 + v) (by omega) (by omega)]
        simp only [if_neg (show ¬ ((12 : Nat) : Int) < 10 + v by omega)]
        exact Tot.now ⟨by simp only; omega, by simp only; omega, by simp only; omega⟩
end Go.Proofs.YtimjblnglhmakaaDoor.M
namespace Go.Proofs.YtimjblnglhmakaaDoor.P
open Go.RowKit Go.Proofs.YtimjblnglhmakaaDoorW.PrintWords Go.Proofs.YtimjblnglhmakaaDoorW.PrintLast Go.Proofs.YtimjblnglhmakaaDoorW.PrintMore
open Bool renaming true → T, false → F
open List renaming setIfInBounds_toArray → L_, set_cons_zero → M_, set_cons_succ → N_, map_toArray → P_, map_cons → Q_, map_nil → R_, length_drop → S_, length_take → U_
open Aside0 renaming mk → A_
attribute [local go_sem] max2_int min2_int max_two min_two max_three min_three max_four min_four
set_option linter.unusedVariables false
set_option linter.unusedSimpArgs false
attribute [local go_sem] fldOrder_0 fldOrder_1
def Acj.l0 : Nat → List Int → List Int → Int → Int → Option (Bool)
 | 0,_,_,_,_=>none
 | k + 1,x0,x6,x7,x8=>if x8 < x7 then (if 0 ≤ x8 then (if x8 < (x6.length : Int) then (if (rd x6 x8) = x8 then (Acj.l0 k x0 x6 x7 (wrap64 (x8 + 1))) else (some false)) else (none)) else (none)) else (some (decide ((x0.length : Int) ≤ 10)))
def Acf.l0 : Nat → Int → List Int → Int → Int → Option (Bool)
 | 0,_,_,_,_=>none
 | k + 1,x1,x7,x8,x9=>if x9 < x8 then (if 0 ≤ x9 then (if x9 < (x7.length : Int) then (if (rd x7 x9) = x1 then (some true) else (Acf.l0 k x1 x7 x8 (wrap64 (x9 + 1)))) else (none)) else (none)) else (some false)
def Acf.f (k : Nat) (l0 : List Int) (a1 : Int) : Option (Bool) := Acf.l0 k a1 l0 (l0.length : Int) 0
mutual
def Ab7.j0 : Nat → List Int → Bool → Option (Bool)
 | 0,_,_=>none
 | k + 1,x0,x12=>if x12 = true then (some false) else (Ab7.l0 k x0 x0 (x0.length : Int) 0)
def Ab7.l0 : Nat → List Int → List Int → Int → Int → Option (Bool)
 | 0,_,_,_,_=>none
 | k + 1,x0,x13,x14,x15=>if x15 < x14 then (if 0 ≤ x15 then (if x15 < (x13.length : Int) then (if (rd x13 x15) > 0 then ((Acf.f k x0 (wrap64 ((rd x13 x15) - 1))).bind fun t1059=>(if t1059 = true then (Ab7.l0 k x0 x13 x14 (wrap64 (x15 + 1))) else (some false))) else (Ab7.l0 k x0 x13 x14 (wrap64 (x15 + 1)))) else (none)) else (none)) else (some true)
end
def Ace.f (l0 : List Int) (a1 : Int) : Option (Int × Bool) := if l0.length < 17592186043904 ∧ l0.Pairwise (· ≤ ·) then some (((l0.countP fun y => decide (y < a1) : Nat) : Int), l0.contains a1) else none
def Ab9.l0 : Nat → List Int → List Int → List Int → Int → Int → Option (List Int)
 | 0,_,_,_,_,_=>none
 | k + 1,x3,x4,x12,x13,x14=>if x14 < x13 then (if 0 ≤ x14 then (if x14 < (x12.length : Int) then ((Ace.f x4 (rd x12 x14)).bind fun bt1038=>(if x3.length < 17592186044416 then (Ab9.l0 k (x3 ++ [bt1038.1]) x4 x12 x13 (wrap64 (x14 + 1))) else (none))) else (none)) else (none)) else (some x3)
def Ab9.f (k : Nat) (l0 : List Int) : Option (List Int) := (Abd.f l0).bind fun t1034 => (Ab9.l0 k (([] : List Int)) t1034 l0 (l0.length : Int) 0)
mutual
def Aca.j0 : Nat → Bool → Int → List Int → Int → List Int → Option (Int × List Int × Bool)
 | 0,_,_,_,_,_=>none
 | k + 1,x23,x968000,x968001,x969000,x969001=>if x23 = true then (some (0,([] : List Int),false)) else (Aca.l0 k x968001 (x968001.length : Int) 0 x969000 x969001 x968000 ([] : List Int))
def Aca.l0 : Nat → List Int → Int → Int → Int → List Int → Int → List Int → Option (Int × List Int × Bool)
 | 0,_,_,_,_,_,_,_=>none
 | k + 1,x29,x30,x31,x969000,x969001,x973000,x973001=>if x31 < x30 then (if 0 ≤ x31 then (if x31 < (x29.length : Int) then (if x31 < (x969001.length : Int) then (if x973001.length < 17592186044416 then (Aca.l0 k x29 x30 (wrap64 (x31 + 1)) x969000 x969001 x973000 (x973001 ++ [Go.bits .and .i64 (rd x29 x31) (rd x969001 x31)])) else (none)) else (none)) else (none)) else (none)) else (some (x973000,x973001,true))
end
mutual
def Ab5.j0 : Nat → List Int → List Int → Bool → Option (List Int × Bool)
 | 0,_,_,_=>none
 | k + 1,x0,x1,x23=>if x23 = true then (some (([] : List Int),false)) else (Ab5.l0 k x1 (([] : List Int)) x0 (x0.length : Int) 0)
def Ab5.l0 : Nat → List Int → List Int → List Int → Int → Int → Option (List Int × Bool)
 | 0,_,_,_,_,_=>none
 | k + 1,x1,x6,x25,x26,x27=>if x27 < x26 then (if 0 ≤ x27 then (if x27 < (x25.length : Int) then (if x27 < (x1.length : Int) then (if x6.length < 17592186044416 then (Ab5.l0 k x1 (x6 ++ [wrap64 ((wrap64 ((rd x25 x27) * 11)) + (rd x1 x27))]) x25 x26 (wrap64 (x27 + 1))) else (none)) else (none)) else (none)) else (none)) else ((Ab9.f k x6).bind fun t1053=>(some (t1053,true)))
end
mutual
def Ab6.j0 : Nat → List Int → List Int → Bool → Option (List Int × Bool)
 | 0,_,_,_=>none
 | k + 1,x0,x1,x23=>if x23 = true then (some (([] : List Int),false)) else (Ab6.l0 k x1 ([] : List Int) x0 (x0.length : Int) 0)
def Ab6.l0 : Nat → List Int → List Int → List Int → Int → Int → Option (List Int × Bool)
 | 0,_,_,_,_,_=>none
 | k + 1,x1,x6,x24,x25,x26=>if x26 < x25 then (if 0 ≤ x26 then (if x26 < (x24.length : Int) then (if x26 < (x1.length : Int) then (if x6.length < 17592186044416 then (Ab6.l0 k x1 (x6 ++ [wrap64 ((wrap64 (100 * (rd x24 x26))) + (rd x1 x26))]) x24 x25 (wrap64 (x26 + 1))) else (none)) else (none)) else (none)) else (none)) else ((Abu.f k x6).bind fun t1067=>(some (t1067,true)))
end
def Ach.l0 : Nat → List Int → Int → Int → Int → List Int → Option (Bool × Bool)
 | 0,_,_,_,_,_=>none
 | k + 1,x13,x14,x15,x979000,x979001=>if x15 < x14 then (if 0 ≤ x15 then (if x15 < (x13.length : Int) then (if x15 < (x979001.length : Int) then (if (Go.bits .andNot .i64 (rd x13 x15) (rd x979001 x15)) = 0 then (Ach.l0 k x13 x14 (wrap64 (x15 + 1)) x979000 x979001) else (some (false,true))) else (none)) else (none)) else (none)) else (some (true,true))
end Go.Proofs.YtimjblnglhmakaaDoor.P
namespace Go.Proofs.YtimjblnglhmakaaDoor.P
open Go.RowKit Go.Proofs.YtimjblnglhmakaaDoorW.PrintWords Go.Proofs.YtimjblnglhmakaaDoorW.PrintLast Go.Proofs.YtimjblnglhmakaaDoorW.PrintMore
open Bool renaming true → T, false → F
open List renaming setIfInBounds_toArray → L_, set_cons_zero → M_, set_cons_succ → N_, map_toArray → P_, map_cons → Q_, map_nil → R_, length_drop → S_, length_take → U_
open Aside0 renaming mk → A_
attribute [local go_sem] max2_int min2_int max_two min_two max_three min_three max_four min_four
set_option linter.unusedVariables false
set_option linter.unusedSimpArgs false
attribute [local go_sem] fldOrder_0 fldOrder_1
mutual
def Acb.j0 : Nat → Bool → Int → List Int → Int → List Int → Option (Bool × Bool)
 | 0,_,_,_,_,_=>none
 | k + 1,x22,x984000,x984001,x985000,x985001=>if x22 = true then (some (false,false)) else (Acb.l0 k x985001 (x985001.length : Int) 0 x984000 x984001)
def Acb.l0 : Nat → List Int → Int → Int → Int → List Int → Option (Bool × Bool)
 | 0,_,_,_,_,_=>none
 | k + 1,x24,x25,x26,x984000,x984001=>if x26 < x25 then (if 0 ≤ x26 then (if x26 < (x24.length : Int) then (if x26 < (x984001.length : Int) then (if (Go.bits .andNot .i64 (rd x24 x26) (rd x984001 x26)) = 0 then (Acb.l0 k x24 x25 (wrap64 (x26 + 1)) x984000 x984001) else (some (false,true))) else (none)) else (none)) else (none)) else (some (true,true))
end
end Go.Proofs.YtimjblnglhmakaaDoor.P
namespace Go.Proofs.YtimjblnglhmakaaDoor.M
open Go.RowKit Go.Proofs.YtimjblnglhmakaaDoorW.PrintMore Go.Proofs.YtimjblnglhmakaaDoorW.PrintLast Go.Proofs.YtimjblnglhmakaaDoorW.PrintWords Go.Proofs.YtimjblnglhmakaaDoor.P
set_option maxRecDepth 4000
theorem down_all {l : List Int} (h0 : ∀ x ∈ l, 0 ≤ x) (h : ∀ x ∈ l, 0 < x → x - 1 ∈ l) (m : Nat) : ∀ y : Int, y ∈ l → y ≤ (m : Int) → ∀ z : Int, 0 ≤ z → z ≤ y → z ∈ l := by
  induction m with
  | zero =>
    intro y hy hm z h1 h2
    have := h0 y hy
    obtain rfl : z = y := by omega
    exact hy
  | succ m ih =>
    intro y hy hm z h1 h2
    by_cases e : z = y
    · rw [e]; exact hy
    · exact ih (y - 1) (h y hy (by omega)) (by omega) z h1 (by omega)
theorem rank_down {l : List Int} (h0 : ∀ x ∈ l, 0 ≤ x) (h : ∀ x ∈ l, 0 < x → x - 1 ∈ l) {y : Int} (hy : y ∈ l) : rank l y = y.toNat := by
  have hp : ((dif l).filter fun z => decide (z < y)).Perm ((List.range y.toNat).map fun (j : Nat) => (j : Int)) := by
    refine (List.perm_ext_iff_of_nodup ((inc_nodup (dif_inc l)).sublist List.filter_sublist) ?_).2 fun z => ?_
    · rw [List.nodup_iff_pairwise_ne, List.pairwise_map]
      exact List.pairwise_lt_range.imp fun h => by omega
    · rw [List.mem_filter, mem_dif, decide_eq_true_iff, List.mem_map]
      constructor
      · rintro ⟨hz, hlt⟩
        have := h0 z hz
        exact ⟨z.toNat, List.mem_range.2 (by omega), by omega⟩
      · rintro ⟨j, hj, rfl⟩
        have hj := List.mem_range.1 hj
        exact ⟨down_all h0 h y.toNat y hy (by omega) (j : Int) (by omega) (by omega), by omega⟩
  unfold rank
  rw [List.countP_eq_length_filter, hp.length_eq]
  simp
end Go.Proofs.YtimjblnglhmakaaDoor.M
namespace Go.Proofs.YtimjblnglhmakaaDoor.M
open Go.RowKit Go.Proofs.YtimjblnglhmakaaDoorW.PrintMore Go.Proofs.YtimjblnglhmakaaDoorW.PrintLast Go.Proofs.YtimjblnglhmakaaDoorW.PrintWords Go.Proofs.YtimjblnglhmakaaDoor.P
set_option maxRecDepth 4000
theorem down_count {l : List Int} (h0 : ∀ x ∈ l, 0 ≤ x) (h : ∀ x ∈ l, 0 < x → x - 1 ∈ l) (y : Int) : y ∈ l ↔ 0 ≤ y ∧ y < ((dif l).length : Int) := by
  constructor
  · intro hy
    have h1 := rank_down h0 h hy
    obtain ⟨hk, _⟩ := rank_lt hy
    have := h0 y hy
    omega
  · rintro ⟨h1, h2⟩
    have hk : y.toNat < (dif l).length := by omega
    have hm : (dif l)[y.toNat] ∈ l := (mem_dif l _).1 (List.getElem_mem _)
    have e := rank_at l y.toNat hk
    rw [rank_down h0 h hm] at e
    have := h0 _ hm
    rw [show y = (dif l)[y.toNat] by omega]
    exact hm
section
variable {n : Nat} {l : List Int}
def mag (n : Nat) (l : List Int) : Nat := (dif (levelsL n (mir n l))).length
theorem lev_mem (y : Int) : y ∈ levelsL n (mir n l) ↔ ∃ i, i < n ∧ ((LV n l i : Nat) : Int) = y := by
  unfold levelsL LV
  rw [List.mem_map]
  exact ⟨fun ⟨i, hi, e⟩ => ⟨i, List.mem_range.1 hi, e⟩, fun ⟨i, hi, e⟩ => ⟨i, List.mem_range.2 hi, e⟩⟩
theorem LV_step (h : Rel n l) (h22 : no22 n l = true) (i m : Nat) (hi : i < n) (hm : LV n l i = m + 1) : ∃ k, k < n ∧ LV n l k = m := by
  have hr := LV_rank h h22 i hi
  rw [hm] at hr
  obtain ⟨hk, _⟩ := rank_lt (mir_mem h i hi)
  have hz := rank_at (mir n l) m (by omega)
  have hmem : (dif (mir n l))[m]'(by omega) ∈ mir n l := (mem_dif _ _).1 (List.getElem_mem _)
  obtain ⟨k, hkn, e⟩ := mir_of_mem h hmem
  refine ⟨k, hkn, ?_⟩
  rw [LV_rank h h22 k hkn, ← e]
  exact hz
theorem lev_all (h : Rel n l) (h22 : no22 n l = true) (t : Nat) : t < mag n l ↔ ∃ i, i < n ∧ LV n l i = t := by
  have := down_count (l := levelsL n (mir n l)) (fun x hx => by obtain ⟨i, _, rfl⟩ := (lev_mem x).1 hx; omega) (fun x hx h0 => by
    obtain ⟨i, hi, rfl⟩ := (lev_mem x).1 hx
    obtain ⟨k, hk, e⟩ := LV_step h h22 i (LV n l i - 1) hi (by omega)
    rw [lev_mem]
    exact ⟨k, hk, by omega⟩) (t : Int)
  rw [lev_mem] at this
  unfold mag
  constructor
  · intro ht
    obtain ⟨i, hi, e⟩ := this.2 ⟨by omega, by omega⟩
    exact ⟨i, hi, by omega⟩
  · rintro ⟨i, hi, e⟩
    have := (this.1 ⟨i, hi, by omega⟩).2
    omega
theorem rgt_ge (i j : Nat) : ((LV n l i : Nat) : Int) ≤ rgt n l i j := by
  have h : ¬ rgt n l i j < ((LV n l i : Nat) : Int) := fun hlt => by
    have := ((rgt_lt i j _).1 hlt).1
    omega
  omega
theorem rgt_lt_mag (h : Rel n l) (h22 : no22 n l = true) (i : Nat) (hi : i < n) : rgt n l i n < ((mag n l : Nat) : Int) := by
  rw [rgt_lt]
  refine ⟨?_, fun k hk _ => ?_⟩
  · have := (lev_all h h22 (LV n l i)).2 ⟨i, hi, rfl⟩
    omega
  · have := (lev_all h h22 (LV n l k)).2 ⟨k, hk, rfl⟩
    omega
theorem rgt_all (o : Ord n l) (h22 : no22 n l = true) (t : Nat) (ht : t < mag n l) : ∃ i, i < n ∧ rgt n l i n = (t : Int) := by
  have h := o.toRel
  obtain ⟨a, ha, hat⟩ := (lev_all h h22 t).1 ht
  by_cases hlast : t + 1 < mag n l
  · obtain ⟨b, hb, hbt⟩ := (lev_all h h22 (t + 1)).1 hlast
    have hlt := (LV_lt h h22 a b ha hb).1 (by omega)
    obtain ⟨x, hx1, hx2⟩ : ∃ x, B l x b = true ∧ B l x a = false := by
      refine Classical.byContradiction fun hno => ?_
      have : diff (row (mir n l) b) (row (mir n l) a) = 0 := by
        rw [diff_zero]
        intro x hx
        have hx : B (mir n l) b x = true := hx
        show B (mir n l) a x = true
        rw [mir_B h] at hx ⊢
        cases hc : B l x a with
        | true => rfl
        | false => exact (hno ⟨x, hx, hc⟩).elim
      have := diff_le this
      omega
    have hxn := h.B_lt' hx1
    refine ⟨x, hxn, ?_⟩
    have h1 := (ends_rep o h22 x b hxn hb).2 hx1
    have h2 : ¬ rgt n l x n < ((LV n l a : Nat) : Int) := fun hh => by rw [(ends_rep o h22 x a hxn ha).1 hh] at hx2; cases hx2
    omega
  · refine ⟨a, ha, ?_⟩
    have h1 := rgt_ge (n := n) (l := l) a n
    have h2 := rgt_lt_mag h h22 a ha
    omega
theorem mir_22 (h : Rel n l) (h22 : no22 n l = true) : no22 n (mir n l) = true := by
  rw [no22_iff] at h22 ⊢
  intro a ha b hb c hc d hd
  have := h22 b hb a ha d hd c hc
  unfold hit22 at this ⊢
  rw [mir_B h, mir_B h, mir_B h, mir_B h]
  cases h1 : B l b a <;> cases h2 : B l d c <;> cases h3 : B l d a <;> cases h4 : B l b c <;> simp_all
theorem mir_isOrd (o : Ord n l) : Ord n (mir n l) where
  toRel := mir_rel o.toRel
  irr := fun i => by rw [mir_B o.toRel]; exact o.irr i
  trans := fun i j k h1 h2 => by
    rw [mir_B o.toRel] at *
    exact o.trans k j i h2 h1
theorem mir_int (o : Ord n l) (h22 : no22 n l = true) : isInt (n : Int) (mir n l) = true := by
  unfold isInt
  rw [isOrd_iff.2 ⟨n, rfl, mir_isOrd o⟩, Bool.true_and, Int.toNat_natCast]
  exact mir_22 o.toRel h22
theorem above_lt (o : Ord n l) (h22 : no22 n l = true) (a b : Nat) (ha : a < n) (hb : b < n) : row l a < row l b ↔ rgt n l b n < rgt n l a n := by
  have h := o.toRel
  have sub : ∀ a b, a < n → b < n → rgt n l b n ≤ rgt n l a n → diff (row l a) (row l b) = 0 := by
    intro a b ha hb hle
    rw [diff_zero]
    intro j hj
    have hj : B l a j = true := hj
    show B l b j = true
    have hjn := h.B_lt hj
    have := (ends_rep o h22 a j ha hjn).2 hj
    exact (ends_rep o h22 b j hb hjn).1 (by omega)
  constructor
  · intro hlt
    refine Classical.byContradiction fun hno => ?_
    have := diff_le (sub b a hb ha (by omega))
    omega
  · intro hlt
    have h1 := diff_le (sub a b ha hb (by omega))
    have h2 : row l a ≠ row l b := by
      intro e
      have hg := rgt_ge (n := n) (l := l) a n
      have hm := rgt_lt_mag h h22 a ha
      obtain ⟨j, hj, hje⟩ := (lev_all h h22 (rgt n l a n).toNat).1 (by omega)
      have h3 := (ends_rep o h22 b j hb hj).1 (by omega)
      have h4 : B l a j = true := by
        show (row l a).testBit j = true
        rw [e]
        exact h3
      have := (ends_rep o h22 a j ha hj).2 h4
      omega
    omega
theorem LV_mir (o : Ord n l) (h22 : no22 n l = true) (i : Nat) (hi : i < n) : ((LV n (mir n l) i : Nat) : Int) = ((mag n l : Nat) : Int) - 1 - rgt n l i n := by
  have h := o.toRel
  have hm := mir_rel h
  rw [LV_rank hm (mir_22 h h22) i hi, mir_mir h]
  have e1 : rank l ((row l i : Nat) : Int) = rank ((List.range n).map fun a => ((mag n l : Nat) : Int) - 1 - rgt n l a n) (((mag n l : Nat) : Int) - 1 - rgt n l i n) := by
    have := dif_map (List.range n) (fun a => ((row l a : Nat) : Int)) (fun a => ((mag n l : Nat) : Int) - 1 - rgt n l a n) (fun a ha b hb => ?_) i (List.mem_range.2 hi)
    · rw [← h.rows] at this
      exact this
    · have := above_lt o h22 a b (List.mem_range.1 ha) (List.mem_range.1 hb)
      omega
  rw [e1]
  have hmem : ∀ y : Int, y ∈ ((List.range n).map fun a => ((mag n l : Nat) : Int) - 1 - rgt n l a n) ↔ ∃ a, a < n ∧ ((mag n l : Nat) : Int) - 1 - rgt n l a n = y := by
    intro y
    rw [List.mem_map]
    exact ⟨fun ⟨a, ha, e⟩ => ⟨a, List.mem_range.1 ha, e⟩, fun ⟨a, ha, e⟩ => ⟨a, List.mem_range.2 ha, e⟩⟩
  have bounds : ∀ a, a < n → 0 ≤ rgt n l a n ∧ rgt n l a n < ((mag n l : Nat) : Int) := fun a ha => ⟨by have := rgt_ge (n := n) (l := l) a n; omega, rgt_lt_mag h h22 a ha⟩
  rw [rank_down (fun x hx => ?_) (fun x hx h0 => ?_) ((hmem _).2 ⟨i, hi, rfl⟩)]
  · have := bounds i hi
    omega
  · obtain ⟨a, ha, rfl⟩ := (hmem x).1 hx
    have := bounds a ha
    omega
  · obtain ⟨a, ha, rfl⟩ := (hmem x).1 hx
    have := bounds a ha
    obtain ⟨k, hk, e⟩ := rgt_all o h22 (rgt n l a n + 1).toNat (by omega)
    rw [hmem]
    exact ⟨k, hk, by omega⟩
theorem mag_mir (o : Ord n l) (h22 : no22 n l = true) : mag n (mir n l) = mag n l := by
  have h := o.toRel
  have key : ∀ t, t < mag n (mir n l) ↔ t < mag n l := by
    intro t
    rw [lev_all (mir_rel h) (mir_22 h h22)]
    constructor
    · rintro ⟨i, hi, e⟩
      have := LV_mir o h22 i hi
      have := rgt_ge (n := n) (l := l) i n
      omega
    · intro ht
      obtain ⟨i, hi, e⟩ := rgt_all o h22 (mag n l - 1 - t) (by omega)
      exact ⟨i, hi, by have := LV_mir o h22 i hi; omega⟩
  have h1 := key (mag n l)
  have h2 := key (mag n (mir n l))
  omega
theorem rgt_mir (o : Ord n l) (h22 : no22 n l = true) (i : Nat) (hi : i < n) : rgt n (mir n l) i n = ((mag n l : Nat) : Int) - 1 - ((LV n l i : Nat) : Int) := by
  have h := o.toRel
  have up : rgt n (mir n l) i n < ((mag n l : Nat) : Int) - 1 - ((LV n l i : Nat) : Int) + 1 := by
    rw [rgt_lt]
    constructor
    · have := LV_mir o h22 i hi
      have := rgt_ge (n := n) (l := l) i n
      omega
    · intro k hk hb
      rw [mir_B h] at hb
      have h1 := LV_mir o h22 k hk
      have h2 : ¬ rgt n l k n < ((LV n l i : Nat) : Int) := fun hh => by rw [(ends_rep o h22 k i hk hi).1 hh] at hb; cases hb
      omega
  have low : ¬ rgt n (mir n l) i n < ((mag n l : Nat) : Int) - 1 - ((LV n l i : Nat) : Int) := by
    rw [rgt_lt]
    rintro ⟨h0, H⟩
    obtain ⟨j, hj, e⟩ := rgt_all o h22 (LV n l i) ((lev_all h h22 _).2 ⟨i, hi, rfl⟩)
    have hb : B (mir n l) i j = false := by
      rw [mir_B h]
      cases hc : B l j i with
      | false => rfl
      | true => have := (ends_rep o h22 j i hj hi).2 hc; omega
    have := H j hj hb
    have := LV_mir o h22 j hj
    omega
  omega
end
def magOf (n : Int) (l : List Int) : Int × Bool := if isInt n l then (((mag n.toNat l : Nat) : Int), true) else (0, false)
theorem levelsL_length (n : Nat) (m : List Int) : (levelsL n m).length = n := by simp [levelsL]
theorem MagnitudeOf_ev (n : Int) (l : List Int) (hl : l.length ≤ 140737488355328) : Ev (fun k => Aa4.f k n l) (magOf n l) := by
  unfold Aa4.f magOf
  refine Ev.bind (isInterval_ev n l hl) ?_
  cases hs : isInt n l with
  | false => simp only [Bool.false_eq_true, if_false]; exact Ev.now _
  | true =>
    obtain ⟨n, rfl, o⟩ := isOrd_iff.1 (isInt_ord hs)
    have hn := o.le
    simp only [if_true, Int.toNat_natCast]
    unfold Abk.f
    refine Ev.bind (a := ((mag n l : Nat) : Int)) (Ev.bind (levels_ev o.toRel) ?_) (Ev.now _)
    simp only [different_eq _ (show (levelsL n (mir n l)).length ≤ 1048576 by rw [levelsL_length]; omega), Option.bind_some]
    exact Ev.now _
def lowOf (n : Int) (l : List Int) : List Int × Bool := if isInt n l then (levelsL n.toNat (mir n.toNat l), true) else ([], false)
theorem LowerLevels_ev (n : Int) (l : List Int) (hl : l.length ≤ 140737488355328) : Ev (fun k => Abb.f k n l) (lowOf n l) := by
  unfold Abb.f lowOf
  refine Ev.bind (isInterval_ev n l hl) ?_
  cases hs : isInt n l with
  | false => simp only [Bool.false_eq_true, if_false]; exact Ev.now _
  | true =>
    obtain ⟨n, rfl, o⟩ := isOrd_iff.1 (isInt_ord hs)
    simp only [if_true, Int.toNat_natCast]
    exact Ev.bind (levels_ev o.toRel) (Ev.now _)
def turned (L : List Iv) : List Iv := (List.range L.length).map fun i => (⟨-(Rt L i), -(Lf L i)⟩ : Iv)
theorem turned_length (L : List Iv) : (turned L).length = L.length := by simp [turned]
theorem turned_f0 (L : List Iv) (i : Nat) (hi : i < L.length) : Lf (turned L) i = -(Rt L i) := by simp [Lf, turned, hi]
theorem turned_f1 (L : List Iv) (i : Nat) (hi : i < L.length) : Rt (turned L) i = -(Lf L i) := by simp [Rt, turned, hi]
theorem MirrorIntervals_ev (L : List Iv) (hL : ivOk L = true) : Ev (fun k => Aan.f k L) (turned L, true) := by
  have h10 := (ivOk_iff.1 hL).2
  unfold Aan.f
  refine Ev.bind (AreIntervals_ev L (by omega)) ?_
  rw [hL]
  simp only [if_true]
  refine Ev.up (fun i k => Aan.l0 k ((List.range i).map fun i => (⟨-(Rt L i), -(Lf L i)⟩ : Iv)) L (L.length : Int) (i : Int)) L.length ?_ ?_
  · intro i hi next
    have hb := (ivOk_iff.1 hL).1 i hi
    refine Ev.step (fun _ => rfl) ?_
    simp only [Aan.l0, if_pos (show (i : Int) < (L.length : Int) by omega), if_pos (show (0 : Int) ≤ (i : Int) by omega), List.length_map, List.length_range, if_pos (show i < 8796093022208 by omega), rd_iv0, rd_iv1, wrap64_in (-(Rt L i)) (by omega) (by omega), wrap64_in (-(Lf L i)) (by omega) (by omega), next64 i L.length hi (by omega)]
    simpa [List.range_succ] using next
  · refine Ev.step (fun _ => rfl) ?_
    simp only [Aan.l0, if_neg (show ¬ (L.length : Int) < (L.length : Int) by omega)]
    exact Ev.now _
theorem turned_ok {L : List Iv} (hL : ivOk L = true) : ivOk (turned L) = true := by
  obtain ⟨h1, h2⟩ := ivOk_iff.1 hL
  rw [ivOk_iff, turned_length]
  refine ⟨fun i hi => ?_, h2⟩
  have := h1 i hi
  rw [turned_f0 L i hi, turned_f1 L i hi]
  omega
theorem turned_R {n : Nat} {l : List Int} (o : Ord n l) (h22 : no22 n l = true) : ivR (turned (endsL n l)) = mir n l := by
  have hlen : (turned (endsL n l)).length = n := by rw [turned_length, endsL_length]
  have hr : Rel n (ivR (turned (endsL n l))) := by
    have := relL_rel n o.le fun i j => decide (Rt (turned (endsL n l)) i < Lf (turned (endsL n l)) j)
    unfold ivR
    rw [hlen]
    exact this
  refine hr.ext (mir_rel o.toRel) fun i j hi hj => ?_
  rw [Bool.eq_iff_iff, ivR_B, hlen, turned_f1 _ i (by rw [endsL_length]; exact hi), turned_f0 _ j (by rw [endsL_length]; exact hj), endsL_f0 i hi, endsL_f1 j hj, mir_B o.toRel, ← ends_rep o h22 j i hj hi]
  constructor
  · rintro ⟨_, _, h⟩; omega
  · intro h; exact ⟨hi, hj, by omega⟩
theorem ivR_length (L : List Iv) : (ivR L).length = L.length := relL_length _ _
theorem DrawEndsOf_tot {l : List Int} (hb : By l) : Tot (fun k => Abl.f k l) (fun r => r.2.length ≤ 20) := by
  unfold Abl.f
  refine Tot.bind (Q := fun r : Int × List Int × Int × Int => r.2.1.length ≤ 20) ?_ (fun r hr => Tot.now hr)
  unfold Aay.f
  refine Tot.bind (intervals2_tot hb) ?_
  rintro ⟨L, p1, h1⟩ ⟨hL, b1, b2⟩
  simp only at hL b1 b2
  have other : ∀ q g, 0 ≤ q → q ≤ 900 → Tot (fun k => Aay.j0 k 7 L false l q g) (fun r => r.2.1.length ≤ 20) := by
    intro q g a1 a2
    refine Tot.step (fun _ => rfl) ?_
    simp only [Aay.j0, Bool.false_eq_true, if_false]
    refine Tot.bind (anyOrder_tot hb q g 7 (by omega) (by omega) (by omega) (by omega)) ?_
    rintro ⟨m, y, q1, g1⟩ ⟨m1, m2, m3⟩
    simp only at m1
    exact Tot.now (by simp only; omega)
  refine Tot.ebind (ivGood_ev L (by omega)) ?_
  refine Tot.ite (fun _ => ?_) (fun _ => other p1 h1 (by omega) (by omega))
  refine Tot.obind (one_ok hb p1 h1 4 (by omega) (by omega)) ?_
  rintro ⟨b, p2, h2⟩ ⟨c1, c2⟩
  simp only at c1 c2
  cases b with
  | true => exact other p2 h2 (by omega) (by omega)
  | false =>
    refine Tot.step (fun _ => rfl) ?_
    simp only [Aay.j0, Bool.not_false, if_true]
    exact Tot.ebind (ivOrder_ev L (by omega)) (Tot.now (by simp only [ivR_length]; omega))
end Go.Proofs.YtimjblnglhmakaaDoor.M
namespace Go.Proofs.YtimjblnglhmakaaDoor.Pure
open Go.RowKit Go.Proofs.YtimjblnglhmakaaDoorW.PrintMore Go.Proofs.YtimjblnglhmakaaDoorW.PrintLast Go.Proofs.YtimjblnglhmakaaDoorW.PrintWords Go.Proofs.YtimjblnglhmakaaDoor.P Go.Proofs.YtimjblnglhmakaaDoor.M
set_option maxRecDepth 4000
theorem FnMirroredEnds : P.Aab.Pure := by
  intro l0 l1 _ hl0 hb _ hl1 _
  have hB := by_wf hb
  obtain ⟨⟨n, l⟩, hd, hlen⟩ := DrawEndsOf_tot hB
  simp only at hlen
  refine Ev.rounds (g := fun k => Aab.f k l0 l1) ?_
  unfold Aab.f
  obtain ⟨b, hbig⟩ : ∃ b, Ab1.f l0 l1 = some b := by
    unfold Ab1.f
    split
    · exact ⟨_, rfl⟩
    · exact ⟨_, rfl⟩
  rw [hbig]
  simp only [Option.bind_some]
  cases b with
  | true => simp only [if_true]; exact Ev.now _
  | false =>
  simp only [Bool.false_eq_true, if_false]
  refine Ev.bind hd ?_
  refine Ev.bind (EndsOf_ev n l (by omega)) ?_
  refine Ev.bind (sEndsOf_ev n l (by omega)) ?_
  simp only [bne_self_eq_false, Bool.false_eq_true, if_false]
  cases hs : isInt n l with
  | false =>
    simp only [endsOf, hs, Bool.false_eq_true, if_false]
    refine Ev.bind (Ev.to (pSameIntervals_ev _ _ (by simp)) (sameIv_refl _)) ?_
    refine Ev.step (fun _ => rfl) ?_
    simp only [Aab.j0, Bool.not_true, Bool.false_eq_true, if_false]
    exact Ev.now _
  | true =>
  have hs' := hs
  unfold isInt at hs'
  rw [Bool.and_eq_true] at hs'
  obtain ⟨ho, h22⟩ := hs'
  obtain ⟨n, rfl, o⟩ := isOrd_iff.1 ho
  rw [Int.toNat_natCast] at h22
  have h := o.toRel
  have hn := o.le
  have om := mir_isOrd o
  have hmi := mir_int o h22
  simp only [endsOf, hs, if_true, Int.toNat_natCast]
  have hEl := endsL_length n l
  have hEm := endsL_length n (mir n l)
  have hok := endsL_ok h
  refine Ev.bind (Ev.to (pSameIntervals_ev _ _ (by omega)) (sameIv_refl _)) ?_
  refine Ev.step (fun _ => rfl) ?_
  simp only [Aab.j0, Bool.not_true, Bool.false_eq_true, if_false, if_true]
  refine Ev.bind (Ev.to (MirrorOf_ev (n : Int) l (by omega)) (r' := ((n : Int), mir n l, true)) (by rw [rel_is h]; simp)) ?_
  refine Ev.bind (Ev.to (EndsOf_ev (n : Int) (mir n l) (by rw [om.len]; omega)) (r' := (endsL n (mir n l), true)) (by unfold endsOf; rw [hmi, if_pos rfl, Int.toNat_natCast])) ?_
  refine Ev.bind (Ev.to (MagnitudeOf_ev (n : Int) l (by omega)) (r' := (((mag n l : Nat) : Int), true)) (by unfold magOf; rw [hs, if_pos rfl, Int.toNat_natCast])) ?_
  refine Ev.bind (Ev.to (MagnitudeOf_ev (n : Int) (mir n l) (by rw [om.len]; omega)) (r' := (((mag n l : Nat) : Int), true)) (by unfold magOf; rw [hmi, if_pos rfl, Int.toNat_natCast, mag_mir o h22])) ?_
  refine Ev.bind (Ev.to (LowerLevels_ev (n : Int) l (by omega)) (r' := (levelsL n (mir n l), true)) (by unfold lowOf; rw [hs, if_pos rfl, Int.toNat_natCast])) ?_
  simp only [if_true, hEl, hEm, bne_self_eq_false]
  refine Ev.step (fun _ => rfl) ?_
  simp only [Aab.j1, Bool.false_eq_true, if_false, hEl]
  refine Ev.up (fun i k => Aab.l0 k (endsL n l) (endsL n (mir n l)) ((mag n l : Nat) : Int) (levelsL n (mir n l)) (endsL n l) (n : Int) (i : Int) (n : Int) (mir n l)) n ?_ ?_
  · intro i hi next
    have g1 := LV_mir o h22 i hi
    have g2 := rgt_mir o h22 i hi
    have g3 := rgt_ge (n := n) (l := l) i n
    have g4 := rgt_lt_mag h h22 i hi
    have g5 := LV_le (mir_rel h) i
    have g6 := (lev_all h h22 (LV n l i)).2 ⟨i, hi, rfl⟩
    have g7 : mag n l ≤ 1000 := by
      unfold mag
      have := dif_length_le (levelsL n (mir n l))
      rw [levelsL_length] at this
      omega
    refine Ev.step (fun _ => rfl) ?_
    simp only [Aab.l0, if_pos (show (i : Int) < (n : Int) by omega), if_pos (show (0 : Int) ≤ (i : Int) by omega), hEl, hEm, levelsL_length, rd_iv0, rd_iv1, endsL_f0 i hi, endsL_f1 i hi, levelsL_rd i hi, wrap64_in (((mag n l : Nat) : Int) - 1) (by omega) (by omega), wrap64_in (((mag n l : Nat) : Int) - 1 - rgt n l i n) (by omega) (by omega), wrap64_in (((mag n l : Nat) : Int) - 1 - ((LV n l i : Nat) : Int)) (by omega) (by omega), if_pos g1, if_pos g2, if_true, next64 i n hi (by omega)]
    exact next
  · refine Ev.step (fun _ => rfl) ?_
    simp only [Aab.l0, if_neg (show ¬ (n : Int) < (n : Int) by omega)]
    refine Ev.bind (MirrorIntervals_ev _ hok) ?_
    refine Ev.bind (DoRepresent_yes om _ (turned_ok hok) (by rw [turned_length, hEl]) (turned_R o h22)) ?_
    simp only [if_true]
    exact Ev.now _
end Go.Proofs.YtimjblnglhmakaaDoor.Pure
namespace Go.Proofs.YtimjblnglhmakaaDoorW.PrintWords
open Go.ChangeShapes Go.WideShapes
theorem sized_ints {H : Type} {enc : TypeId × Value → H} {P : Program} {W : World} {base : Nat} {spare : Nat → Bool} {held : Bool} {t e : TypeId} {k : IntKind} {a : Option Addr} {len cap : Nat} {d : DataW H} {ps : List MemPlace} {ts : List TypeId} {ds : List (DataW H)} {j : Nat}
    (hsz : (DataW.weightsEach P ts ds).all (· ≤ reachBytes) = true) (ht : ts[j]? = some t) (hd : ds[j]? = some d) (hu : P.underlying t = some (.slice e)) (he : P.underlying e = some (.int k)) (hc : P.cellsOf e = 1) {B : Nat} (hB : P.bytesOf e = B)
    (h : DataW.Trod enc P W base spare held t (.slice a len cap) d ps) : len * B ≤ 140737488351232 := by
  obtain ⟨fuel, hf⟩ := h
  rcases open_ints hu he hc hf with ⟨hcs, _⟩ | ⟨x, l, c, zs, hcs, _, hl, _, hz, hx, _, _⟩
  · simp [Value.cells] at hcs
    obtain ⟨rfl, rfl, rfl⟩ := hcs
    simp
  · simp [Value.cells] at hcs
    obtain ⟨rfl, rfl, rfl⟩ := hcs
    obtain ⟨hx, _⟩ := Prod.mk.inj hx
    subst hx
    have z := sized_slice hsz ht hd hu
    rw [hB] at z
    have hl2 : len ≤ zs.length := by
      rw [hz]
      split
      · exact hl
      · exact Nat.le_refl _
    have h1 : (lits (H := H) k (zs.take len)).length + (lits (H := H) k (zs.drop len)).length = zs.length := by
      simp [lits]
      omega
    rw [h1] at z
    exact Nat.le_trans (Nat.mul_le_mul_right _ hl2) z
end Go.Proofs.YtimjblnglhmakaaDoorW.PrintWords
namespace Go.Proofs.YtimjblnglhmakaaDoor.fnMirroredEnds
open Go.ChangeShapes Go.WideShapes Go.ChangeAt Go.RowKit
open Go.ChangeMaps (open_string shut_string)
open Go.Proofs.YtimjblnglhmakaaDoorW
set_option linter.unusedVariables false
theorem own : ownKnob Tryd.prog.godebug = none := by kernel_rfl
theorem laidOut : laidOutB Tryd.prog = true := by kernel_rfl
def IsRow (k : IntKind) (w : World) (a : Option Addr) (len cap : Nat) (zs : List Int) : Prop :=
  (a = none ∧ len = 0 ∧ cap = 0 ∧ zs = []) ∨
  ∃ x, a = some x ∧ len ≤ cap ∧ cap ≤ maxLen ∧ zs.length = cap ∧ (∀ i, i < zs.length → w.cell? (x.add i) = some (.int k (zs.getD i 0))) ∧ ∀ n ∈ zs, (Lit.int k n).wf = true
theorem gT : Tryd.prog.globalNamed "math/bits.deBruijn64tab" = some 1 := by kernel_rfl
theorem tT : (Tryd.prog.globals[1]?).map (·.type) = some 162 := by kernel_rfl
theorem cT : Tryd.prog.cellsOf 162 = 64 := by kernel_rfl
theorem cE : Tryd.prog.cellsOf 5 = 1 := by kernel_rfl
def tab64 : List Int := Lib.deBruijn64tab.map fun (z : Nat) => (z : Int)
theorem tab64_at : ∀ j, j < 64 → tab64.getD j 0 = ((Lib.deBruijn64tab.getD j 0 : Nat) : Int) := by decide +kernel
theorem table {W : World} (h : laidMetH Tryd.prog Rows.fnMirroredEndsRow.laid W) : P.TabOK W := by
  rw [MakeChecks.laidMetH_plain _ _ _ (by kernel_rfl)] at h
  have h1 : laidMet Tryd.prog [("math/bits.deBruijn32tab", Rows.laid_math_bits_deBruijn32tab), ("math/bits.deBruijn64tab", Lib.tabData .u8 tab64)] W := h
  have h0 := laidMet.tail (h1)
  have ht := Lib.tabIs_of_head gT tT Tryd.underlying162 Tryd.underlying5 cE cT h0
  intro j hj
  rw [ht.cell gT j (by exact hj), tab64_at j hj]
theorem door_met (os : Os) (args : Array Value) : laidMetH Tryd.prog Rows.fnMirroredEndsRow.laid ((World.doorLaid Tryd.prog 400 os).forCall (fun _ _ => 0) ⟨#[], args, []⟩).memory :=
  laidMetH_of_parts3 (fuel := 8) (laidMet_of_run' 8 (by kernel_rfl) (by kernel_rfl)) (by kernel_rfl) (by kernel_rfl)
set_option maxRecDepth 100000 in
theorem lifted (os : Os) (started : os.Started) (H : Type) (enc : TypeId × Value → H) :
    ReturnsInHanded {} Tryd.checked os 11 .any (fun w args => (Rows.fnMirroredEndsSpec.pre enc Tryd.prog Tryd.f11 [] false w args ∧ laidMetH Tryd.prog Rows.fnMirroredEndsRow.laid w) ∧ sizedMet enc Tryd.prog Tryd.f11 (OpenSpec.ofChange Rows.fnMirroredEndsSpec) false w args)
      (Rows.fnMirroredEndsSpec.post enc Tryd.prog Tryd.f11 false true false false) := by
  refine returnsInHanded_of_change_and (C := Tryd.checked) (X := fun w _ => laidMetH Tryd.prog Rows.fnMirroredEndsRow.laid w) (fun _ _ _ hh h => h.of_heap hh) own started (by kernel_rfl) Tryd.func11
    (ChangeSpec.witness_shaped (enc := enc) (C := Tryd.checked) (os := os) (X := fun w _ => laidMetH Tryd.prog Rows.fnMirroredEndsRow.laid w) false (World.doorLaid Tryd.prog 400 os) #[.slice none 0 0, .slice none 0 0] 8 rfl (World.shaped_of_RefB (by kernel_rfl) (by kernel_rfl)) (by kernel_rfl) (by kernel_rfl) (by kernel_rfl) (door_met os _)) ?_
  intro W base args ds gs before hval0 hW hcnd hsz0 hL _
  have hsz : (DataW.weightsEach Tryd.prog (Tryd.f11.params.toList ++ Rows.fnMirroredEndsSpec.plain.varTypes Tryd.prog) (ds ++ gs)).all (· ≤ reachBytes) = true := hsz0
  have hval : ∀ (j : Nat) t v, Tryd.f11.params[j]? = some t → args[j]? = some v → Value.okWide Tryd.prog W .any base t v := hval0
  have hW' := hW
  obtain ⟨p, q, hA0, hV, rfl, hfz, hnd⟩ := hW
  have hA : DataW.TrodAll enc Tryd.prog W 0 (fun _ => true) true Tryd.f11.params.toList args.toList ds p := hA0
  rw [Tryd.params11] at hA hval hsz
  obtain ⟨v0, vs0, d0, ds0, p0, q0, hargs, rfl, rfl, h0, r0⟩ := trodAll_cons hA
  obtain ⟨v1, vs1, d1, ds1, p1, q1, rfl, rfl, rfl, h1, r1⟩ := trodAll_cons r0
  obtain ⟨rfl, rfl, rfl⟩ := trodAll_nil r1
  obtain rfl : args = #[v0, v1] := by cases args; simp_all
  obtain ⟨rfl, rfl⟩ := trodVars_none hV
  obtain ⟨a0, len0, cap0, rfl⟩ := okWide_slice Tryd.underlying35 (hval 0 35 v0 rfl rfl)
  have k0 := h0
  have lt0 : ∀ x ∈ p0, x.block < W.heap.size := by obtain ⟨m, hm⟩ := k0; exact DataW.trod_lt m _ _ _ hm
  obtain ⟨z0, w0⟩ : ∃ zs, IsRow .u8 W a0 len0 cap0 zs := by
    obtain ⟨fuel, hf⟩ := h0
    rcases open_ints Tryd.underlying35 Tryd.underlying5 (by kernel_rfl) hf with ⟨hcs, _⟩ | ⟨x, l, c, zs, hcs, _, hl, hm, hz, _, hcell, hwz⟩
    · simp [Value.cells] at hcs
      obtain ⟨rfl, rfl, rfl⟩ := hcs
      exact ⟨[], .inl ⟨rfl, rfl, rfl, rfl⟩⟩
    · simp [Value.cells] at hcs
      obtain ⟨rfl, rfl, rfl⟩ := hcs
      exact ⟨zs, .inr ⟨_, rfl, hl, hm, by simpa using hz, hcell, hwz⟩⟩
  have y0 : len0 * 1 ≤ 140737488351232 := PrintWords.sized_ints hsz (j := 0) (t := 35) rfl rfl Tryd.underlying35 Tryd.underlying5 (by kernel_rfl) (by kernel_rfl) h0
  obtain ⟨a1, len1, cap1, rfl⟩ := okWide_slice Tryd.underlying35 (hval 1 35 v1 rfl rfl)
  have k1 := h1
  have lt1 : ∀ x ∈ p1, x.block < W.heap.size := by obtain ⟨m, hm⟩ := k1; exact DataW.trod_lt m _ _ _ hm
  obtain ⟨z1, w1⟩ : ∃ zs, IsRow .u8 W a1 len1 cap1 zs := by
    obtain ⟨fuel, hf⟩ := h1
    rcases open_ints Tryd.underlying35 Tryd.underlying5 (by kernel_rfl) hf with ⟨hcs, _⟩ | ⟨x, l, c, zs, hcs, _, hl, hm, hz, _, hcell, hwz⟩
    · simp [Value.cells] at hcs
      obtain ⟨rfl, rfl, rfl⟩ := hcs
      exact ⟨[], .inl ⟨rfl, rfl, rfl, rfl⟩⟩
    · simp [Value.cells] at hcs
      obtain ⟨rfl, rfl, rfl⟩ := hcs
      exact ⟨zs, .inr ⟨_, rfl, hl, hm, by simpa using hz, hcell, hwz⟩⟩
  have y1 : len1 * 1 ≤ 140737488351232 := PrintWords.sized_ints hsz (j := 1) (t := 35) rfl rfl Tryd.underlying35 Tryd.underlying5 (by kernel_rfl) (by kernel_rfl) h1
  clear hA0 hval0 hsz0 hsz
  refine (P.Aab.walk Pure.FnMirroredEnds a0 len0 cap0 z0 a1 len1 cap1 z1 W w0 y0 w1 y1 (table hL)).mono fun e W' ⟨he, bel⟩ => ?_
  subst he
  exact ⟨_, rfl, _, _, _, [], _, [], hW', trodAll_mk1 (shut_bool Tryd.underlying4 _), (trodAll_cons_mk (Below.trod laidOut (by kernel_rfl) (of_decide_eq_true (by kernel_rfl)) k0 bel lt0) (trodAll_cons_mk (Below.trod laidOut (by kernel_rfl) (of_decide_eq_true (by kernel_rfl)) k1 bel lt1) trodAll_mk0)), rfl, bel.frame _, fun h => by cases h⟩
set_option maxHeartbeats 8000000 in
theorem named_ : Tryd.pinned.checked.prog.funcNamed "loop.example/g01106/laws.FnMirroredEnds" = some 11 := by kernel_rfl
set_option maxHeartbeats 8000000 in
theorem joined_ : joinedFacts Tryd.pinned.checked.prog 11 Tryd.f11 Rows.fnMirroredEndsSpec Rows.fnMirroredEndsRow = true := by
  unfold joinedFacts
  repeat' (with_reducible refine (Bool.and_eq_true_iff).2 ⟨?_, ?_⟩)
  all_goals (as_aux_lemma => kernel_rfl)
theorem over : Rows.fnMirroredEndsRow.holds Tryd.pinned (OpenSpec.ofChange Rows.fnMirroredEndsSpec) :=
  OpenClaim.holds_of_wide 11 Tryd.f11 rfl rfl rfl rfl rfl rfl rfl ⟨rfl, rfl, rfl, rfl, rfl⟩ rfl rfl rfl rfl rfl named_ Tryd.func11 joined_
    (of_decide_eq_true (by kernel_rfl)) (by unfold Func.isWrapper; first | (rw [if_pos (by decide +kernel)]; kernel_rfl) | (rw [if_neg (by decide +kernel)]; exact ⟨rfl, rfl⟩))
    (fun os started H enc _ => lifted os started H enc)
set_option maxHeartbeats 8000000 in
theorem main_ : Tryd.pinned.checked.prog.mainIs = some (true, "db67f5b5a54c9f31397de544f55d48fa9d1bcc0f366770764b110f372f5e00c3".toList) := by kernel_rfl
set_option maxHeartbeats 8000000 in
theorem looks_ : true = Tryd.pinned.checked.prog.looks [] := by kernel_rfl
theorem stand_ : ([35].all fun u => !Tryd.prog.wantsStandIn u) = true := by kernel_rfl
set_option maxHeartbeats 8000000 in
theorem goes_ : false = Rows.fnMirroredEndsRow.goesBy Tryd.pinned.checked.prog := by kernel_rfl
theorem wf_ : Rows.fnMirroredEndsRow.wfByText (OpenSpec.ofChange Rows.fnMirroredEndsSpec) = true := by kernel_rfl
theorem proved : Rows.FnMirroredEndsCardSaid :=
  Claim7.holds_tied_plain_at .later [] [.data, .data] true (true, "db67f5b5a54c9f31397de544f55d48fa9d1bcc0f366770764b110f372f5e00c3") true
    over (fun _ h => by cases h) wf_ (fun _ h => by cases h) fnMirroredEnds_row_tie rfl ⟨rfl, rfl⟩ main_ rfl
    (fun f fn hf hfn => by
      obtain rfl : f = 11 := Option.some.inj (named_.symm.trans hf) |>.symm
      obtain rfl : fn = Tryd.f11 := (Option.some.inj (Tryd.func11.symm.trans hfn)).symm
      exact ⟨looks_, fun j t ht => by
        rw [Tryd.params11] at ht
        have hm : t ∈ [35] := by have hq := Array.mem_of_getElem? ht; simp at hq; simp [hq]
        exact (show Tryd.prog.wantsStandIn t = false by simpa using List.all_eq_true.1 stand_ t hm)⟩)
    goes_
end Go.Proofs.YtimjblnglhmakaaDoor.fnMirroredEnds
namespace Go.Proofs.YtimjblnglhmakaaDoor
theorem fnMirroredEnds_holds : Rows.FnMirroredEndsCardSaid := fnMirroredEnds.proved
end Go.Proofs.YtimjblnglhmakaaDoor
