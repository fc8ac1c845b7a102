/- The law FnSetsAlong holds at every input. Written by wip/pack.py: the kit's printed words that are used, the functions' walks as wip/gen.py prints them, and hand proofs. -/
import Derived.Test.YtimjblnglhmakaaDoorKFnSetsAlong5
import Derived.SizedLaws
import Derived.ChangeSlices
import Derived.Test.YtimjblnglhmakaaDoorRows
import Derived.Test.YtimjblnglhmakaaDoorCards
import Derived.Test.YtimjblnglhmakaaDoorTie
import Derived.WalkKit
import Derived.ProofKit
import Derived.OpenShut
import Derived.ShutString
import Derived.ChangeOld
import Derived.Below
import Derived.LaidMore
import Derived.Stop.Joined
import Derived.Stop.LaidErr
import Derived.Lib.LaidTab
import Derived.Lib.SmallJoins
import Derived.SevenTiedAt
namespace Go.Proofs.YtimjblnglhmakaaDoor.P
open Go.RowKit Go.Proofs.YtimjblnglhmakaaDoorW.PrintWords Go.Proofs.YtimjblnglhmakaaDoorW.PrintLast Go.Proofs.YtimjblnglhmakaaDoorW.PrintMore
open Bool renaming true → T, false → F
open List renaming setIfInBounds_toArray → L_, set_cons_zero → M_, set_cons_succ → N_, map_toArray → P_, map_cons → Q_, map_nil → R_, length_drop → S_, length_take → U_
open Aside0 renaming mk → A_
attribute [local go_sem] max2_int min2_int max_two min_two max_three min_three max_four min_four
set_option linter.unusedVariables false
set_option linter.unusedSimpArgs false
attribute [local go_sem] fldOrder_0 fldOrder_1
attribute [local go_sem high] eqA62
def Acn.l0 : Nat → List (S62) → List (S62) → Int → Int → Option (Bool)
 | 0,_,_,_,_=>none
 | k + 1,x0,x1,x12,x13=>if x13 < x12 then (if 0 ≤ x13 then (if x13 < (x0.length : Int) then (if x13 < (x1.length : Int) then (if (!(((rd_T62 x0 x13).f0) == ((rd_T62 x1 x13).f0)) || (!(((rd_T62 x0 x13).f1) == ((rd_T62 x1 x13).f1)))) = true then (some false) else (Acn.l0 k x0 x1 x12 (wrap64 (x13 + 1)))) else (none)) else (none)) else (none)) else (some true)
end Go.Proofs.YtimjblnglhmakaaDoor.P
namespace Go.Proofs.YtimjblnglhmakaaDoor.P
open Go.RowKit Go.Proofs.YtimjblnglhmakaaDoorW.PrintWords Go.Proofs.YtimjblnglhmakaaDoorW.PrintLast Go.Proofs.YtimjblnglhmakaaDoorW.PrintMore
open Bool renaming true → T, false → F
open List renaming setIfInBounds_toArray → L_, set_cons_zero → M_, set_cons_succ → N_, map_toArray → P_, map_cons → Q_, map_nil → R_, length_drop → S_, length_take → U_
open Aside0 renaming mk → A_
attribute [local go_sem] max2_int min2_int max_two min_two max_three min_three max_four min_four
set_option linter.unusedVariables false
set_option linter.unusedSimpArgs false
attribute [local go_sem] fldOrder_0 fldOrder_1
end Go.Proofs.YtimjblnglhmakaaDoor.P
namespace Go.Proofs.YtimjblnglhmakaaDoor.M
open Go.RowKit Go.Proofs.YtimjblnglhmakaaDoorW.PrintMore Go.Proofs.YtimjblnglhmakaaDoorW.PrintLast Go.Proofs.YtimjblnglhmakaaDoorW.PrintWords Go.Proofs.YtimjblnglhmakaaDoor.P
set_option maxRecDepth 4000
theorem intervals2_tot {l : List Int} (hb : By l) : Tot (fun k => Aam.f k l 0 0 7) (fun r => r.1.length ≤ 20 ∧ 0 ≤ r.2.1 ∧ r.2.1 ≤ 200) := by
  unfold Aam.f
  rw [show wrap64 (7 + 1) = 8 from by rw [wrap64_in _ (by omega) (by omega)]; rfl]
  refine Tot.obind (pick_ok hb 0 0 8 (by omega) (by omega)) ?_
  rintro ⟨c, p1, h1⟩ ⟨c0, c1, c2, c3⟩
  simp only at c0 c1 c2 c3
  obtain ⟨n, rfl⟩ := Int.eq_ofNat_of_zero_le c0
  have hn : n ≤ 8 := by omega
  have h0 := Tot.up (Q := fun r : List Iv × Int × Int => r.1.length ≤ 20 ∧ 0 ≤ r.2.1 ∧ r.2.1 ≤ 200) (fun i (s : List Iv × Int × Int) k => Aam.l0 k s.1 ((n - i : Nat) : Int) l s.2.1 s.2.2) n (fun i s => s.1.length = i ∧ 0 ≤ s.2.1 ∧ s.2.1 ≤ 2 + 4 * (i : Int)) ?_ ?_ 0 (Nat.zero_le _) ([], p1, h1) ⟨rfl, by simp only; omega, by simp only; omega⟩
  · exact h0
  · rintro i ⟨z, q, g⟩ hi ⟨s1, s2, s3⟩ next
    simp only at s1 s2 s3
    refine Tot.step (fun _ => rfl) ?_
    simp only [Aam.l0, if_pos (show ((n - i : Nat) : Int) > 0 by omega), s1, if_pos (show i < 8796093022208 by omega), show wrap64 (((n - i : Nat) : Int) - 1) = ((n - (i + 1) : Nat) : Int) by rw [wrap64_in _ (by omega) (by omega)]; omega]
    refine Tot.obind (pick_ok hb q g 8 (by omega) (by omega)) ?_
    rintro ⟨v, q2, g2⟩ ⟨v0, v1, v2, v3⟩
    simp only at v0 v1 v2 v3
    refine Tot.obind (pick_ok hb q2 g2 4 (by omega) (by omega)) ?_
    rintro ⟨u, q3, g3⟩ ⟨u0, u1, u2, u3⟩
    simp only at u0 u1 u2 u3
    exact next (_, _, _) ⟨by simp [s1], by simp only; omega, by simp only; omega⟩
  · rintro ⟨z, q, g⟩ ⟨s1, s2, s3⟩
    simp only at s1 s2 s3
    refine Tot.step (fun _ => rfl) ?_
    simp only [Aam.l0, if_neg (show ¬ ((n - n : Nat) : Int) > 0 by omega)]
    refine Tot.obind (pick_ok hb q g 14 (by omega) (by omega)) ?_
    rintro ⟨v, q2, g2⟩ ⟨v0, v1, v2, v3⟩
    simp only at v0 v1 v2 v3
    refine Tot.ite (fun _ => ?_) (fun _ => Tot.ite (fun _ => ?_) (fun _ => Tot.now ⟨by simp only; omega, by simp only; omega, by simp only; omega⟩))
    · refine Tot.obind (among_ok hb q2 g2 _ (by simp) (by omega) (by omega)) ?_
      rintro ⟨a, q3, g3⟩ ⟨_, a1, a2⟩
      simp only at a1 a2
      refine Tot.obind (among_ok hb q3 g3 _ (by simp) (by omega) (by omega)) ?_
      rintro ⟨a', q4, g4⟩ ⟨_, b1, b2⟩
      simp only at b1 b2
      simp only [s1, if_pos (show n < 8796093022208 by omega)]
      exact Tot.now ⟨by simp [s1]; omega, by simp only; omega, by simp only; omega⟩
    · have h1 := Tot.up (Q := fun r : List Iv × Int × Int => r.1.length ≤ 20 ∧ 0 ≤ r.2.1 ∧ r.2.1 ≤ 200) (fun i (s : List Iv × Int × Int) k => Aam.l1 k s.1 l s.2.1 s.2.2) 12 (fun i s => s.1.length = i ∧ 0 ≤ s.2.1 ∧ s.2.1 ≤ 60 + 2 * (i : Int)) ?_ ?_ 0 (Nat.zero_le _) ([], q2, g2) ⟨rfl, by simp only; omega, by simp only; omega⟩
      · exact h1
      · rintro i ⟨z, q, g⟩ hi ⟨t1, t2, t3⟩ next
        simp only at t1 t2 t3
        refine Tot.step (fun _ => rfl) ?_
        simp only [Aam.l1, t1]
        refine Tot.obind (pick_ok hb q g 2 (by omega) (by omega)) ?_
        rintro ⟨v, q5, g5⟩ ⟨w0, w1, w2, w3⟩
        simp only at w0 w1 w2 w3
        refine Tot.ite (fun _ => ?_) (fun _ => Tot.now ⟨by simp only; omega, by simp only; omega, by simp only; omega⟩)
        simp only [if_pos (show i < 8796093022208 by omega)]
        exact next (_, _, _) ⟨by simp [t1], by simp only; omega, by simp only; omega⟩
      · rintro ⟨z, q, g⟩ ⟨t1, t2, t3⟩
        simp only at t1 t2 t3
        refine Tot.step (fun _ => rfl) ?_
        simp only [Aam.l1, t1]
        refine Tot.obind (pick_ok hb q g 2 (by omega) (by omega)) ?_
        rintro ⟨v, q5, g5⟩ ⟨w0, w1, w2, w3⟩
        simp only at w0 w1 w2 w3
        rw [wrap64_in (10 + v) (by omega) (by omega)]
        simp only [if_neg (show ¬ ((12 : Nat) : Int) < 10 + v by omega)]
        exact Tot.now ⟨by simp only; omega, by simp only; omega, by simp only; omega⟩
end Go.Proofs.YtimjblnglhmakaaDoor.M
namespace Go.Proofs.YtimjblnglhmakaaDoor.P
open Go.RowKit Go.Proofs.YtimjblnglhmakaaDoorW.PrintWords Go.Proofs.YtimjblnglhmakaaDoorW.PrintLast Go.Proofs.YtimjblnglhmakaaDoorW.PrintMore
open Bool renaming true → T, false → F
open List renaming setIfInBounds_toArray → L_, set_cons_zero → M_, set_cons_succ → N_, map_toArray → P_, map_cons → Q_, map_nil → R_, length_drop → S_, length_take → U_
open Aside0 renaming mk → A_
attribute [local go_sem] max2_int min2_int max_two min_two max_three min_three max_four min_four
set_option linter.unusedVariables false
set_option linter.unusedSimpArgs false
attribute [local go_sem] fldOrder_0 fldOrder_1
def Acs.l0 : Nat → List Int → List Int → Int → Int → Option (Bool)
 | 0,_,_,_,_=>none
 | k + 1,x0,x6,x7,x8=>if x8 < x7 then (if 0 ≤ x8 then (if x8 < (x6.length : Int) then (if (rd x6 x8) = x8 then (Acs.l0 k x0 x6 x7 (wrap64 (x8 + 1))) else (some false)) else (none)) else (none)) else (some (decide ((x0.length : Int) ≤ 10)))
def Acl.l0 : Nat → Int → List Int → Int → Int → Option (Bool)
 | 0,_,_,_,_=>none
 | k + 1,x1,x7,x8,x9=>if x9 < x8 then (if 0 ≤ x9 then (if x9 < (x7.length : Int) then (if (rd x7 x9) = x1 then (some true) else (Acl.l0 k x1 x7 x8 (wrap64 (x9 + 1)))) else (none)) else (none)) else (some false)
def Acl.f (k : Nat) (l0 : List Int) (a1 : Int) : Option (Bool) := Acl.l0 k a1 l0 (l0.length : Int) 0
mutual
def Acd.j0 : Nat → List Int → Bool → Option (Bool)
 | 0,_,_=>none
 | k + 1,x0,x12=>if x12 = true then (some false) else (Acd.l0 k x0 x0 (x0.length : Int) 0)
def Acd.l0 : Nat → List Int → List Int → Int → Int → Option (Bool)
 | 0,_,_,_,_=>none
 | k + 1,x0,x13,x14,x15=>if x15 < x14 then (if 0 ≤ x15 then (if x15 < (x13.length : Int) then (if (rd x13 x15) > 0 then ((Acl.f k x0 (wrap64 ((rd x13 x15) - 1))).bind fun t1059=>(if t1059 = true then (Acd.l0 k x0 x13 x14 (wrap64 (x15 + 1))) else (some false))) else (Acd.l0 k x0 x13 x14 (wrap64 (x15 + 1)))) else (none)) else (none)) else (some true)
end
def Ack.f (l0 : List Int) (a1 : Int) : Option (Int × Bool) := if l0.length < 17592186043904 ∧ l0.Pairwise (· ≤ ·) then some (((l0.countP fun y => decide (y < a1) : Nat) : Int), l0.contains a1) else none
def Acf.l0 : Nat → List Int → List Int → List Int → Int → Int → Option (List Int)
 | 0,_,_,_,_,_=>none
 | k + 1,x3,x4,x12,x13,x14=>if x14 < x13 then (if 0 ≤ x14 then (if x14 < (x12.length : Int) then ((Ack.f x4 (rd x12 x14)).bind fun bt1038=>(if x3.length < 17592186044416 then (Acf.l0 k (x3 ++ [bt1038.1]) x4 x12 x13 (wrap64 (x14 + 1))) else (none))) else (none)) else (none)) else (some x3)
def Acf.f (k : Nat) (l0 : List Int) : Option (List Int) := (Abh.f l0).bind fun t1034 => (Acf.l0 k (([] : List Int)) t1034 l0 (l0.length : Int) 0)
mutual
def Acg.j0 : Nat → Bool → Int → List Int → Int → List Int → Option (Int × List Int × Bool)
 | 0,_,_,_,_,_=>none
 | k + 1,x23,x968000,x968001,x969000,x969001=>if x23 = true then (some (0,([] : List Int),false)) else (Acg.l0 k x968001 (x968001.length : Int) 0 x969000 x969001 x968000 ([] : List Int))
def Acg.l0 : Nat → List Int → Int → Int → Int → List Int → Int → List Int → Option (Int × List Int × Bool)
 | 0,_,_,_,_,_,_,_=>none
 | k + 1,x29,x30,x31,x969000,x969001,x973000,x973001=>if x31 < x30 then (if 0 ≤ x31 then (if x31 < (x29.length : Int) then (if x31 < (x969001.length : Int) then (if x973001.length < 17592186044416 then (Acg.l0 k x29 x30 (wrap64 (x31 + 1)) x969000 x969001 x973000 (x973001 ++ [Go.bits .and .i64 (rd x29 x31) (rd x969001 x31)])) else (none)) else (none)) else (none)) else (none)) else (some (x973000,x973001,true))
end
mutual
def Acb.j0 : Nat → List Int → List Int → Bool → Option (List Int × Bool)
 | 0,_,_,_=>none
 | k + 1,x0,x1,x23=>if x23 = true then (some (([] : List Int),false)) else (Acb.l0 k x1 (([] : List Int)) x0 (x0.length : Int) 0)
def Acb.l0 : Nat → List Int → List Int → List Int → Int → Int → Option (List Int × Bool)
 | 0,_,_,_,_,_=>none
 | k + 1,x1,x6,x25,x26,x27=>if x27 < x26 then (if 0 ≤ x27 then (if x27 < (x25.length : Int) then (if x27 < (x1.length : Int) then (if x6.length < 17592186044416 then (Acb.l0 k x1 (x6 ++ [wrap64 ((wrap64 ((rd x25 x27) * 11)) + (rd x1 x27))]) x25 x26 (wrap64 (x27 + 1))) else (none)) else (none)) else (none)) else (none)) else ((Acf.f k x6).bind fun t1053=>(some (t1053,true)))
end
mutual
def Acc.j0 : Nat → List Int → List Int → Bool → Option (List Int × Bool)
 | 0,_,_,_=>none
 | k + 1,x0,x1,x23=>if x23 = true then (some (([] : List Int),false)) else (Acc.l0 k x1 ([] : List Int) x0 (x0.length : Int) 0)
def Acc.l0 : Nat → List Int → List Int → List Int → Int → Int → Option (List Int × Bool)
 | 0,_,_,_,_,_=>none
 | k + 1,x1,x6,x24,x25,x26=>if x26 < x25 then (if 0 ≤ x26 then (if x26 < (x24.length : Int) then (if x26 < (x1.length : Int) then (if x6.length < 17592186044416 then (Acc.l0 k x1 (x6 ++ [wrap64 ((wrap64 (100 * (rd x24 x26))) + (rd x1 x26))]) x24 x25 (wrap64 (x26 + 1))) else (none)) else (none)) else (none)) else (none)) else ((Abz.f k x6).bind fun t1067=>(some (t1067,true)))
end
def Acq.l0 : Nat → List Int → Int → Int → Int → List Int → Option (Bool × Bool)
 | 0,_,_,_,_,_=>none
 | k + 1,x13,x14,x15,x979000,x979001=>if x15 < x14 then (if 0 ≤ x15 then (if x15 < (x13.length : Int) then (if x15 < (x979001.length : Int) then (if (Go.bits .andNot .i64 (rd x13 x15) (rd x979001 x15)) = 0 then (Acq.l0 k x13 x14 (wrap64 (x15 + 1)) x979000 x979001) else (some (false,true))) else (none)) else (none)) else (none)) else (some (true,true))
end Go.Proofs.YtimjblnglhmakaaDoor.P
namespace Go.Proofs.YtimjblnglhmakaaDoor.P
open Go.RowKit Go.Proofs.YtimjblnglhmakaaDoorW.PrintWords Go.Proofs.YtimjblnglhmakaaDoorW.PrintLast Go.Proofs.YtimjblnglhmakaaDoorW.PrintMore
open Bool renaming true → T, false → F
open List renaming setIfInBounds_toArray → L_, set_cons_zero → M_, set_cons_succ → N_, map_toArray → P_, map_cons → Q_, map_nil → R_, length_drop → S_, length_take → U_
open Aside0 renaming mk → A_
attribute [local go_sem] max2_int min2_int max_two min_two max_three min_three max_four min_four
set_option linter.unusedVariables false
set_option linter.unusedSimpArgs false
attribute [local go_sem] fldOrder_0 fldOrder_1
mutual
def Ach.j0 : Nat → Bool → Int → List Int → Int → List Int → Option (Bool × Bool)
 | 0,_,_,_,_,_=>none
 | k + 1,x22,x984000,x984001,x985000,x985001=>if x22 = true then (some (false,false)) else (Ach.l0 k x985001 (x985001.length : Int) 0 x984000 x984001)
def Ach.l0 : Nat → List Int → Int → Int → Int → List Int → Option (Bool × Bool)
 | 0,_,_,_,_,_=>none
 | k + 1,x24,x25,x26,x984000,x984001=>if x26 < x25 then (if 0 ≤ x26 then (if x26 < (x24.length : Int) then (if x26 < (x984001.length : Int) then (if (Go.bits .andNot .i64 (rd x24 x26) (rd x984001 x26)) = 0 then (Ach.l0 k x24 x25 (wrap64 (x26 + 1)) x984000 x984001) else (some (false,true))) else (none)) else (none)) else (none)) else (some (true,true))
end
end Go.Proofs.YtimjblnglhmakaaDoor.P
namespace Go.Proofs.YtimjblnglhmakaaDoor.M
open Go.RowKit Go.Proofs.YtimjblnglhmakaaDoorW.PrintMore Go.Proofs.YtimjblnglhmakaaDoorW.PrintLast Go.Proofs.YtimjblnglhmakaaDoorW.PrintWords Go.Proofs.YtimjblnglhmakaaDoor.P
set_option maxRecDepth 4000
theorem down_all {l : List Int} (h0 : ∀ x ∈ l, 0 ≤ x) (h : ∀ x ∈ l, 0 < x → x - 1 ∈ l) (m : Nat) : ∀ y : Int, y ∈ l → y ≤ (m : Int) → ∀ z : Int, 0 ≤ z → z ≤ y → z ∈ l := by
  induction m with
  | zero =>
    intro y hy hm z h1 h2
    have := h0 y hy
    obtain rfl : z = y := by omega
    exact hy
  | succ m ih =>
    intro y hy hm z h1 h2
    by_cases e : z = y
    · rw [e]; exact hy
    · exact ih (y - 1) (h y hy (by omega)) (by omega) z h1 (by omega)
theorem rank_down {l : List Int} (h0 : ∀ x ∈ l, 0 ≤ x) (h : ∀ x ∈ l, 0 < x → x - 1 ∈ l) {y : Int} (hy : y ∈ l) : rank l y = y.toNat := by
  have hp : ((dif l).filter fun z => decide (z < y)).Perm ((List.range y.toNat).map fun (j : Nat) => (j : Int)) := by
    refine (List.perm_ext_iff_of_nodup ((inc_nodup (dif_inc l)).sublist List.filter_sublist) ?_).2 fun z => ?_
    · rw [List.nodup_iff_pairwise_ne, List.pairwise_map]
      exact List.pairwise_lt_range.imp fun h => by omega
    · rw [List.mem_filter, mem_dif, decide_eq_true_iff, List.mem_map]
      constructor
      · rintro ⟨hz, hlt⟩
        have := h0 z hz
        exact ⟨z.toNat, List.mem_range.2 (by omega), by omega⟩
      · rintro ⟨j, hj, rfl⟩
        have hj := List.mem_range.1 hj
        exact ⟨down_all h0 h y.toNat y hy (by omega) (j : Int) (by omega) (by omega), by omega⟩
  unfold rank
  rw [List.countP_eq_length_filter, hp.length_eq]
  simp
end Go.Proofs.YtimjblnglhmakaaDoor.M
namespace Go.Proofs.YtimjblnglhmakaaDoor.P
open Go.RowKit Go.Proofs.YtimjblnglhmakaaDoorW.PrintWords Go.Proofs.YtimjblnglhmakaaDoorW.PrintLast Go.Proofs.YtimjblnglhmakaaDoorW.PrintMore
open Bool renaming true → T, false → F
open List renaming setIfInBounds_toArray → L_, set_cons_zero → M_, set_cons_succ → N_, map_toArray → P_, map_cons → Q_, map_nil → R_, length_drop → S_, length_take → U_
open Aside0 renaming mk → A_
attribute [local go_sem] max2_int min2_int max_two min_two max_three min_three max_four min_four
set_option linter.unusedVariables false
set_option linter.unusedSimpArgs false
attribute [local go_sem] fldOrder_0 fldOrder_1
def Acm.l0 : Nat → List (S62) → List (S62) → Int → Int → Option ((List (S62)) × Bool)
 | 0,_,_,_,_=>none
 | k + 1,x4,x11,x12,x13=>if x13 < x12 then (if 0 ≤ x13 then (if x13 < (x11.length : Int) then (if x4.length < 8796093022208 then (Acm.l0 k (x4 ++ [(⟨wrap64 (-((rd_T62 x11 x13).f1)),wrap64 (-((rd_T62 x11 x13).f0))⟩ : S62)]) x11 x12 (wrap64 (x13 + 1))) else (none)) else (none)) else (none)) else (some (x4,true))
end Go.Proofs.YtimjblnglhmakaaDoor.P
namespace Go.Proofs.YtimjblnglhmakaaDoor.P
open Go.RowKit Go.Proofs.YtimjblnglhmakaaDoorW.PrintWords Go.Proofs.YtimjblnglhmakaaDoorW.PrintLast Go.Proofs.YtimjblnglhmakaaDoorW.PrintMore
open Bool renaming true → T, false → F
open List renaming setIfInBounds_toArray → L_, set_cons_zero → M_, set_cons_succ → N_, map_toArray → P_, map_cons → Q_, map_nil → R_, length_drop → S_, length_take → U_
open Aside0 renaming mk → A_
attribute [local go_sem] max2_int min2_int max_two min_two max_three min_three max_four min_four
set_option linter.unusedVariables false
set_option linter.unusedSimpArgs false
attribute [local go_sem] fldOrder_0 fldOrder_1
end Go.Proofs.YtimjblnglhmakaaDoor.P
namespace Go.Proofs.YtimjblnglhmakaaDoor.M
open Go.RowKit Go.Proofs.YtimjblnglhmakaaDoorW.PrintMore Go.Proofs.YtimjblnglhmakaaDoorW.PrintLast Go.Proofs.YtimjblnglhmakaaDoorW.PrintWords Go.Proofs.YtimjblnglhmakaaDoor.P
set_option maxRecDepth 4000
theorem down_count {l : List Int} (h0 : ∀ x ∈ l, 0 ≤ x) (h : ∀ x ∈ l, 0 < x → x - 1 ∈ l) (y : Int) : y ∈ l ↔ 0 ≤ y ∧ y < ((dif l).length : Int) := by
  constructor
  · intro hy
    have h1 := rank_down h0 h hy
    obtain ⟨hk, _⟩ := rank_lt hy
    have := h0 y hy
    omega
  · rintro ⟨h1, h2⟩
    have hk : y.toNat < (dif l).length := by omega
    have hm : (dif l)[y.toNat] ∈ l := (mem_dif l _).1 (List.getElem_mem _)
    have e := rank_at l y.toNat hk
    rw [rank_down h0 h hm] at e
    have := h0 _ hm
    rw [show y = (dif l)[y.toNat] by omega]
    exact hm
section
variable {n : Nat} {l : List Int}
def mag (n : Nat) (l : List Int) : Nat := (dif (levelsL n (mir n l))).length
theorem lev_mem (y : Int) : y ∈ levelsL n (mir n l) ↔ ∃ i, i < n ∧ ((LV n l i : Nat) : Int) = y := by
  unfold levelsL LV
  rw [List.mem_map]
  exact ⟨fun ⟨i, hi, e⟩ => ⟨i, List.mem_range.1 hi, e⟩, fun ⟨i, hi, e⟩ => ⟨i, List.mem_range.2 hi, e⟩⟩
theorem LV_step (h : Rel n l) (h22 : no22 n l = true) (i m : Nat) (hi : i < n) (hm : LV n l i = m + 1) : ∃ k, k < n ∧ LV n l k = m := by
  have hr := LV_rank h h22 i hi
  rw [hm] at hr
  obtain ⟨hk, _⟩ := rank_lt (mir_mem h i hi)
  have hz := rank_at (mir n l) m (by omega)
  have hmem : (dif (mir n l))[m]'(by omega) ∈ mir n l := (mem_dif _ _).1 (List.getElem_mem _)
  obtain ⟨k, hkn, e⟩ := mir_of_mem h hmem
  refine ⟨k, hkn, ?_⟩
  rw [LV_rank h h22 k hkn, ← e]
  exact hz
theorem lev_all (h : Rel n l) (h22 : no22 n l = true) (t : Nat) : t < mag n l ↔ ∃ i, i < n ∧ LV n l i = t := by
  have := down_count (l := levelsL n (mir n l)) (fun x hx => by obtain ⟨i, _, rfl⟩ := (lev_mem x).1 hx; omega) (fun x hx h0 => by
    obtain ⟨i, hi, rfl⟩ := (lev_mem x).1 hx
    obtain ⟨k, hk, e⟩ := LV_step h h22 i (LV n l i - 1) hi (by omega)
    rw [lev_mem]
    exact ⟨k, hk, by omega⟩) (t : Int)
  rw [lev_mem] at this
  unfold mag
  constructor
  · intro ht
    obtain ⟨i, hi, e⟩ := this.2 ⟨by omega, by omega⟩
    exact ⟨i, hi, by omega⟩
  · rintro ⟨i, hi, e⟩
    have := (this.1 ⟨i, hi, by omega⟩).2
    omega
theorem rgt_ge (i j : Nat) : ((LV n l i : Nat) : Int) ≤ rgt n l i j := by
  have h : ¬ rgt n l i j < ((LV n l i : Nat) : Int) := fun hlt => by
    have := ((rgt_lt i j _).1 hlt).1
    omega
  omega
theorem rgt_lt_mag (h : Rel n l) (h22 : no22 n l = true) (i : Nat) (hi : i < n) : rgt n l i n < ((mag n l : Nat) : Int) := by
  rw [rgt_lt]
  refine ⟨?_, fun k hk _ => ?_⟩
  · have := (lev_all h h22 (LV n l i)).2 ⟨i, hi, rfl⟩
    omega
  · have := (lev_all h h22 (LV n l k)).2 ⟨k, hk, rfl⟩
    omega
theorem rgt_all (o : Ord n l) (h22 : no22 n l = true) (t : Nat) (ht : t < mag n l) : ∃ i, i < n ∧ rgt n l i n = (t : Int) := by
  have h := o.toRel
  obtain ⟨a, ha, hat⟩ := (lev_all h h22 t).1 ht
  by_cases hlast : t + 1 < mag n l
  · obtain ⟨b, hb, hbt⟩ := (lev_all h h22 (t + 1)).1 hlast
    have hlt := (LV_lt h h22 a b ha hb).1 (by omega)
    obtain ⟨x, hx1, hx2⟩ : ∃ x, B l x b = true ∧ B l x a = false := by
      refine Classical.byContradiction fun hno => ?_
      have : diff (row (mir n l) b) (row (mir n l) a) = 0 := by
        rw [diff_zero]
        intro x hx
        have hx : B (mir n l) b x = true := hx
        show B (mir n l) a x = true
        rw [mir_B h] at hx ⊢
        cases hc : B l x a with
        | true => rfl
        | false => exact (hno ⟨x, hx, hc⟩).elim
      have := diff_le this
      omega
    have hxn := h.B_lt' hx1
    refine ⟨x, hxn, ?_⟩
    have h1 := (ends_rep o h22 x b hxn hb).2 hx1
    have h2 : ¬ rgt n l x n < ((LV n l a : Nat) : Int) := fun hh => by rw [(ends_rep o h22 x a hxn ha).1 hh] at hx2; cases hx2
    omega
  · refine ⟨a, ha, ?_⟩
    have h1 := rgt_ge (n := n) (l := l) a n
    have h2 := rgt_lt_mag h h22 a ha
    omega
end
def magOf (n : Int) (l : List Int) : Int × Bool := if isInt n l then (((mag n.toNat l : Nat) : Int), true) else (0, false)
theorem levelsL_length (n : Nat) (m : List Int) : (levelsL n m).length = n := by simp [levelsL]
theorem MagnitudeOf_ev (n : Int) (l : List Int) (hl : l.length ≤ 140737488355328) : Ev (fun k => Abo.f k n l) (magOf n l) := by
  unfold Abo.f magOf
  refine Ev.bind (isInterval_ev n l hl) ?_
  cases hs : isInt n l with
  | false => simp only [Bool.false_eq_true, if_false]; exact Ev.now _
  | true =>
    obtain ⟨n, rfl, o⟩ := isOrd_iff.1 (isInt_ord hs)
    have hn := o.le
    simp only [if_true, Int.toNat_natCast]
    unfold Aa6.f
    refine Ev.bind (a := ((mag n l : Nat) : Int)) (Ev.bind (levels_ev o.toRel) ?_) (Ev.now _)
    simp only [different_eq _ (show (levelsL n (mir n l)).length ≤ 1048576 by rw [levelsL_length]; omega), Option.bind_some]
    exact Ev.now _
theorem ivR_length (L : List Iv) : (ivR L).length = L.length := relL_length _ _
end Go.Proofs.YtimjblnglhmakaaDoor.M
namespace Go.Proofs.YtimjblnglhmakaaDoor.M
open Go.RowKit Go.Proofs.YtimjblnglhmakaaDoorW.PrintMore Go.Proofs.YtimjblnglhmakaaDoorW.PrintLast Go.Proofs.YtimjblnglhmakaaDoorW.PrintWords Go.Proofs.YtimjblnglhmakaaDoor.P
set_option maxRecDepth 4000
section
variable {n : Nat} {l : List Int}
def inAt (n : Nat) (l : List Int) (t i : Nat) : Bool := decide (((LV n l i : Nat) : Int) ≤ (t : Int) ∧ (t : Int) ≤ rgt n l i n)
def setAt (n : Nat) (l : List Int) (t : Nat) : Nat := setOf n (inAt n l t)
def setsL (n : Nat) (l : List Int) : List Int := (List.range (mag n l)).map fun t => ((setAt n l t : Nat) : Int)
theorem setsL_length : (setsL n l).length = mag n l := by simp [setsL]
theorem setsL_rd (t : Nat) (ht : t < mag n l) : rd (setsL n l) (t : Int) = ((setAt n l t : Nat) : Int) := by
  rw [rd_nat]
  simp [setsL, ht]
theorem mag_le (h : Rel n l) : mag n l ≤ 10 := by
  unfold mag
  have := dif_length_le (levelsL n (mir n l))
  have := h.le
  rw [levelsL_length] at *
  omega
theorem magnitude_ev (h : Rel n l) : Ev (fun k => Aa6.f k (n : Int) l) ((mag n l : Nat) : Int) := by
  have hn := h.le
  unfold Aa6.f
  refine Ev.bind (levels_ev h) ?_
  simp only [different_eq _ (show (levelsL n (mir n l)).length ≤ 1048576 by rw [levelsL_length]; omega), Option.bind_some]
  exact Ev.now _
theorem two62 (i : Nat) (h : i ≤ 62) : (2 : Nat) ^ i < 9223372036854775808 := Nat.lt_of_le_of_lt (Nat.pow_le_pow_right (by decide) h) (by decide)
theorem setsAlong_ev (h : Rel n l) : Ev (fun k => Aaj.f k (n : Int) l) (setsL n l) := by
  have hn := h.le
  have hm := mag_le h
  have hEl := endsL_length n l
  unfold Aaj.f
  refine Ev.bind (ends_ev h) ?_
  refine Ev.bind (magnitude_ev h) ?_
  refine Ev.up (fun t k => Aaj.l0 k ((List.range t).map fun t => ((setAt n l t : Nat) : Int)) (endsL n l) ((mag n l : Nat) : Int) (t : Int)) (mag n l) ?_ ?_
  · intro t ht next
    refine Ev.step (fun _ => rfl) ?_
    simp only [Aaj.l0, if_pos (show (t : Int) < ((mag n l : Nat) : Int) by omega), hEl]
    refine Ev.up (fun i k => Aaj.l1 k ((List.range t).map fun t => ((setAt n l t : Nat) : Int)) (endsL n l) (t : Int) ((setOf i (inAt n l t) : Nat) : Int) ((mag n l : Nat) : Int) (t : Int) (endsL n l) (n : Int) (i : Int)) n ?_ ?_
    · intro i hi next
      refine Ev.step (fun _ => rfl) ?_
      rw [setOf_bit_or] at next
      have h2 := two62 i (by omega)
      have h1 := setOf_62 i (inAt n l t) (by omega)
      simp only [Aaj.l1, if_pos (show (i : Int) < (n : Int) by omega), if_pos (show (0 : Int) ≤ (i : Int) by omega), hEl, rd_iv0, rd_iv1, endsL_f0 i hi, endsL_f1 i hi, within_eq, Option.bind_some]
      rw [show decide (((LV n l i : Nat) : Int) ≤ (t : Int) ∧ (t : Int) ≤ rgt n l i n) = inAt n l t i from rfl]
      cases hb : inAt n l t i with
      | true =>
        rw [hb, if_pos rfl] at next
        simp only [if_true, shl1 i (by omega), or_i64 _ _ h1 h2, next64 i n hi (by omega)]
        exact next
      | false =>
        rw [hb, if_neg (by simp)] at next
        simp only [Bool.false_eq_true, if_false, next64 i n hi (by omega)]
        exact next
    · refine Ev.step (fun _ => rfl) ?_
      simp only [Aaj.l1, if_neg (show ¬ (n : Int) < (n : Int) by omega), List.length_map, List.length_range, if_pos (show t < 17592186044416 by omega), next64 t (mag n l) ht (by omega)]
      simpa [List.range_succ, setAt] using next
  · refine Ev.step (fun _ => rfl) ?_
    simp only [Aaj.l0, if_neg (show ¬ ((mag n l : Nat) : Int) < ((mag n l : Nat) : Int) by omega)]
    exact Ev.now _
def topTo (n : Nat) (l : List Int) : Nat → Int
  | 0 => -1
  | j + 1 => mx (topTo n l j) ((LV n l j : Nat) : Int)
theorem topTo_lt (j : Nat) (y : Int) : topTo n l j < y ↔ -1 < y ∧ ∀ k, k < j → ((LV n l k : Nat) : Int) < y := by
  induction j with
  | zero => exact ⟨fun h => ⟨h, fun k hk => by omega⟩, fun h => h.1⟩
  | succ j ih =>
    rw [topTo, mx_lt, ih]
    constructor
    · rintro ⟨⟨h1, h2⟩, h3⟩
      refine ⟨h1, fun k hk => ?_⟩
      by_cases e : k = j
      · rw [e]; exact h3
      · exact h2 k (by omega)
    · rintro ⟨h1, h2⟩
      exact ⟨⟨h1, fun k hk => h2 k (by omega)⟩, h2 j (by omega)⟩
theorem topTo_all (h : Rel n l) (h22 : no22 n l = true) : topTo n l n = ((mag n l : Nat) : Int) - 1 := by
  have up : topTo n l n < ((mag n l : Nat) : Int) - 1 + 1 := (topTo_lt _ _).2 ⟨by omega, fun k hk => by
    have := (lev_all h h22 (LV n l k)).2 ⟨k, hk, rfl⟩
    omega⟩
  have low : ¬ topTo n l n < ((mag n l : Nat) : Int) - 1 := fun hh => by
    obtain ⟨h0, H⟩ := (topTo_lt _ _).1 hh
    obtain ⟨i, hi, e⟩ := (lev_all h h22 (mag n l - 1)).1 (by omega)
    have := H i hi
    omega
  omega
theorem ivMost_ev (h : Rel n l) (h22 : no22 n l = true) : Ev (fun k => Abj.f k (levelsL n (mir n l))) (((mag n l : Nat) : Int) - 1) := by
  have hn := h.le
  unfold Abj.f
  rw [levelsL_length, ← topTo_all h h22]
  refine Ev.up (fun j k => Abj.l0 k (topTo n l j) (levelsL n (mir n l)) (n : Int) (j : Int)) n ?_ ?_
  · intro j hj next
    refine Ev.step (fun _ => rfl) ?_
    simp only [Abj.l0, if_pos (show (j : Int) < (n : Int) by omega), if_pos (show (0 : Int) ≤ (j : Int) by omega), levelsL_length, levelsL_rd j hj, l1Most_eq, Option.bind_some, next64 j n hj (by omega)]
    exact next
  · refine Ev.step (fun _ => rfl) ?_
    simp only [Abj.l0, if_neg (show ¬ (n : Int) < (n : Int) by omega)]
    exact Ev.now _
theorem sSetsAlong_l (h : Rel n l) (h22 : no22 n l = true) : Ev (fun k => Aao.l0 k [] 0 (n : Int) l) (setsL n l, true) := by
  have hn := h.le
  have hm := mag_le h
  have hEl := endsL_length n l
  refine Ev.up (fun t k => Aao.l0 k ((List.range t).map fun t => ((setAt n l t : Nat) : Int)) (t : Int) (n : Int) l) (mag n l) ?_ ?_
  · intro t ht next
    refine Ev.step (fun _ => rfl) ?_
    simp only [Aao.l0]
    refine Ev.bind (ivLevels_ev h) ?_
    refine Ev.bind (ivMost_ev h h22) ?_
    simp only [if_pos (show (t : Int) ≤ ((mag n l : Nat) : Int) - 1 by omega)]
    refine Ev.bind (ivEnds_ev h) ?_
    rw [hEl]
    refine Ev.up (fun i k => Aao.l1 k ((List.range t).map fun t => ((setAt n l t : Nat) : Int)) (t : Int) ((setOf i (inAt n l t) : Nat) : Int) (endsL n l) (n : Int) (i : Int) (n : Int) l) n ?_ ?_
    · intro i hi next
      refine Ev.step (fun _ => rfl) ?_
      rw [setOf_bit_or] at next
      have h2 := two62 i (by omega)
      have h1 := setOf_62 i (inAt n l t) (by omega)
      simp only [Aao.l1, if_pos (show (i : Int) < (n : Int) by omega), if_pos (show (0 : Int) ≤ (i : Int) by omega), hEl, rd_iv0, rd_iv1, endsL_f0 i hi, endsL_f1 i hi, l1In_eq, Option.bind_some]
      rw [show decide (((LV n l i : Nat) : Int) ≤ (t : Int) ∧ (t : Int) ≤ rgt n l i n) = inAt n l t i from rfl]
      cases hb : inAt n l t i with
      | true =>
        rw [hb, if_pos rfl] at next
        simp only [if_true, shl1 i (by omega), or_i64 _ _ h1 h2, next64 i n hi (by omega)]
        exact next
      | false =>
        rw [hb, if_neg (by simp)] at next
        simp only [Bool.false_eq_true, if_false, next64 i n hi (by omega)]
        exact next
    · refine Ev.step (fun _ => rfl) ?_
      simp only [Aao.l1, if_neg (show ¬ (n : Int) < (n : Int) by omega), List.length_map, List.length_range, if_pos (show t < 17592186044416 by omega), next64 t (mag n l) ht (by omega)]
      simpa [List.range_succ, setAt] using next
  · refine Ev.step (fun _ => rfl) ?_
    simp only [Aao.l0]
    refine Ev.bind (ivLevels_ev h) ?_
    refine Ev.bind (ivMost_ev h h22) ?_
    simp only [if_neg (show ¬ ((mag n l : Nat) : Int) ≤ ((mag n l : Nat) : Int) - 1 by omega)]
    exact Ev.now _
end
def alongOf (n : Int) (l : List Int) : List Int × Bool := if isInt n l then (setsL n.toNat l, true) else ([], false)
theorem int_22 {n : Int} {l : List Int} (h : isInt n l = true) : no22 n.toNat l = true := by
  unfold isInt at h
  rw [Bool.and_eq_true] at h
  exact h.2
theorem SetsAlong_ev (n : Int) (l : List Int) (hl : l.length ≤ 140737488355328) : Ev (fun k => Abq.f k n l) (alongOf n l) := by
  unfold Abq.f alongOf
  refine Ev.bind (isInterval_ev n l hl) ?_
  cases hs : isInt n l with
  | false => simp only [Bool.false_eq_true, if_false]; exact Ev.now _
  | true =>
    obtain ⟨n, rfl, o⟩ := isOrd_iff.1 (isInt_ord hs)
    simp only [if_true, Int.toNat_natCast]
    exact Ev.bind (setsAlong_ev o.toRel) (Ev.now _)
theorem sSetsAlong_ev (n : Int) (l : List Int) (hl : l.length ≤ 140737488355328) : Ev (fun k => Aao.f k n l) (alongOf n l) := by
  unfold Aao.f alongOf
  refine Ev.bind (ivGoodOrder_ev n l hl) ?_
  cases hs : isInt n l with
  | false => simp only [Bool.false_eq_true, if_false]; exact Ev.now _
  | true =>
    have h22 := int_22 hs
    obtain ⟨n, rfl, o⟩ := isOrd_iff.1 (isInt_ord hs)
    rw [Int.toNat_natCast] at h22
    simp only [if_true, Int.toNat_natCast]
    exact sSetsAlong_l o.toRel h22
theorem elems_half (n s : Nat) : (elems (n + 1) s).length = s % 2 + (elems n (s / 2)).length := by
  unfold elems
  rw [← List.countP_eq_length_filter, ← List.countP_eq_length_filter, List.range_succ_eq_map, List.countP_cons, List.countP_map]
  have e : ((fun j => s.testBit j) ∘ Nat.succ) = fun j => (s / 2).testBit j := by
    funext j
    simp [Nat.testBit_succ]
  rw [e, Nat.add_comm]
  congr 1
  rw [Nat.testBit_zero]
  by_cases c : s % 2 = 1
  · simp [c]
  · have : s % 2 = 0 := by omega
    simp [this]
theorem pMany_l (n : Nat) : ∀ s c : Nat, s < 2 ^ n → s ≤ 1048576 → n + c ≤ 100 → Ev (fun k => Abe.l0 k (s : Int) (c : Int)) (((c + (elems n s).length : Nat)) : Int) := by
  induction n with
  | zero =>
    intro s c hs hb hc
    have : s = 0 := by simpa using hs
    subst this
    refine Ev.step (fun _ => rfl) ?_
    simp only [Abe.l0, if_neg (show ¬ ((0 : Nat) : Int) > 0 by omega)]
    exact Ev.to (Ev.now _) (by simp [elems])
  | succ n ih =>
    intro s c hs hb hc
    by_cases h0 : s = 0
    · subst h0
      refine Ev.step (fun _ => rfl) ?_
      simp only [Abe.l0, if_neg (show ¬ ((0 : Nat) : Int) > 0 by omega)]
      exact Ev.to (Ev.now _) (by simp [elems_zero])
    · have hs2 : s / 2 < 2 ^ n := by
        rw [Nat.pow_succ] at hs
        omega
      have next := ih (s / 2) (c + s % 2) hs2 (by omega) (by omega)
      refine Ev.step (fun _ => rfl) ?_
      simp only [Abe.l0, if_pos (show (s : Int) > 0 by omega), Int.tmod_eq_emod_of_nonneg (show (0 : Int) ≤ (s : Int) by omega), Int.tdiv_eq_ediv_of_nonneg (show (0 : Int) ≤ (s : Int) by omega), wrap64_in ((s : Int) / 2) (by omega) (by omega), wrap64_in ((c : Int) + (s : Int) % 2) (by omega) (by omega)]
      rw [show (s : Int) / 2 = ((s / 2 : Nat) : Int) by omega, show (c : Int) + (s : Int) % 2 = ((c + s % 2 : Nat) : Int) by omega]
      refine Ev.to next ?_
      rw [elems_half, Nat.add_assoc]
theorem pMany_ev (n s : Nat) (hn : n ≤ 10) (hs : s < 2 ^ n) : Ev (fun k => Abe.f k (s : Int)) (((elems n s).length : Nat) : Int) := by
  have : (2 : Nat) ^ n ≤ 2 ^ 10 := Nat.pow_le_pow_right (by decide) hn
  have := pMany_l n s 0 hs (by omega) (by omega)
  rw [Nat.zero_add] at this
  exact this
section
variable {n : Nat} {l : List Int}
def freeOf (n : Nat) (l : List Int) (s i : Nat) : Bool := diff (diff s (indif n l i)) (2 ^ i) == 0
def anti (n : Nat) (l : List Int) (s : Nat) : Bool := allB (elems n s).length fun q => freeOf n l s ((elems n s).getD q 0)
theorem free_iff (s i : Nat) : freeOf n l s i = true ↔ ∀ j, s.testBit j = true → j ≠ i → (indif n l i).testBit j = true := by
  unfold freeOf
  rw [beq_iff_eq, diff_zero]
  constructor
  · intro H j hj hne
    cases hc : (indif n l i).testBit j with
    | true => rfl
    | false =>
      have := H j (by rw [testBit_diff, hj, hc]; rfl)
      rw [Nat.testBit_two_pow, decide_eq_true_iff] at this
      exact absurd this.symm hne
  · intro H j hj
    rw [testBit_diff, Bool.and_eq_true] at hj
    rw [Nat.testBit_two_pow, decide_eq_true_iff]
    refine Classical.byContradiction fun hne => ?_
    rw [H j hj.1 (fun e => hne e.symm)] at hj
    cases hj.2
theorem free_bit (i j : Nat) : (indif n l i).testBit j = true ↔ j < n ∧ B l i j = false ∧ B l j i = false ∧ j ≠ i := by
  unfold indif
  rw [testBit_setOf]
  cases B l i j <;> cases B l j i <;> simp
theorem bit_lt {s j : Nat} (hs : s < 2 ^ n) (hj : s.testBit j = true) : j < n := by
  refine Classical.byContradiction fun hn => ?_
  rw [Nat.testBit_lt_two_pow (Nat.lt_of_lt_of_le hs (Nat.pow_le_pow_right (by decide) (by omega)))] at hj
  cases hj
theorem anti_iff (o : Ord n l) (s : Nat) (hs : s < 2 ^ n) : anti n l s = true ↔ ∀ i j, s.testBit i = true → s.testBit j = true → B l i j = false := by
  unfold anti
  rw [allB_iff]
  constructor
  · intro H i j hi hj
    by_cases e : j = i
    · rw [e]; exact o.irr i
    · have hm : i ∈ elems n s := mem_elems.2 ⟨bit_lt hs hi, hi⟩
      obtain ⟨q, hq, eq⟩ := List.getElem_of_mem hm
      have := H q hq
      rw [show (elems n s).getD q 0 = i by simp [hq, eq], free_iff] at this
      exact (free_bit i j).1 (this j hj e) |>.2.1
  · intro H q hq
    have hm : (elems n s).getD q 0 ∈ elems n s := by simp [hq]
    rw [free_iff]
    intro j hj hne
    rw [free_bit]
    exact ⟨bit_lt hs hj, H _ j (mem_elems.1 hm).2 hj, H j _ hj (mem_elems.1 hm).2, hne⟩
def wide (n : Nat) (l : List Int) : Nat → Nat
  | 0 => 0
  | m + 1 => if anti n l m = true ∧ wide n l m < (elems n m).length then (elems n m).length else wide n l m
theorem wide_ge (M : Nat) : ∀ s, s < M → anti n l s = true → (elems n s).length ≤ wide n l M := by
  induction M with
  | zero => intro s hs; omega
  | succ M ih =>
    intro s hs ha
    rw [wide]
    by_cases e : s = M
    · subst e
      by_cases c : anti n l s = true ∧ wide n l s < (elems n s).length
      · rw [if_pos c]; exact Nat.le_refl _
      · rw [if_neg c]
        have : ¬ wide n l s < (elems n s).length := fun h => c ⟨ha, h⟩
        omega
    · have := ih s (by omega) ha
      by_cases c : anti n l M = true ∧ wide n l M < (elems n M).length
      · rw [if_pos c]; omega
      · rw [if_neg c]; exact this
theorem wide_le (c : Nat) (M : Nat) (H : ∀ s, s < M → anti n l s = true → (elems n s).length ≤ c) : wide n l M ≤ c := by
  induction M with
  | zero => exact Nat.zero_le _
  | succ M ih =>
    have := ih fun s hs => H s (by omega)
    rw [wide]
    by_cases d : anti n l M = true ∧ wide n l M < (elems n M).length
    · rw [if_pos d]; exact H M (by omega) d.1
    · rw [if_neg d]; exact this
def most (n : Nat) (l : List Int) : Nat → Nat
  | 0 => 0
  | t + 1 => if most n l t < (elems n (setAt n l t)).length then (elems n (setAt n l t)).length else most n l t
theorem most_ge (T : Nat) : ∀ t, t < T → (elems n (setAt n l t)).length ≤ most n l T := by
  induction T with
  | zero => intro t ht; omega
  | succ T ih =>
    intro t ht
    rw [most]
    by_cases e : t = T
    · subst e
      by_cases c : most n l t < (elems n (setAt n l t)).length
      · rw [if_pos c]; exact Nat.le_refl _
      · rw [if_neg c]; omega
    · have := ih t (by omega)
      by_cases c : most n l T < (elems n (setAt n l T)).length
      · rw [if_pos c]; omega
      · rw [if_neg c]; exact this
theorem most_le (c : Nat) (T : Nat) (H : ∀ t, t < T → (elems n (setAt n l t)).length ≤ c) : most n l T ≤ c := by
  induction T with
  | zero => exact Nat.zero_le _
  | succ T ih =>
    have := ih fun t ht => H t (by omega)
    rw [most]
    by_cases d : most n l T < (elems n (setAt n l T)).length
    · rw [if_pos d]; exact H T (by omega)
    · rw [if_neg d]; exact this
theorem max_of (f : Nat → Nat) (p : Nat → Bool) : ∀ n, (∃ i, i < n ∧ p i = true) → ∃ i, i < n ∧ p i = true ∧ ∀ j, j < n → p j = true → f j ≤ f i := by
  intro n
  induction n with
  | zero => rintro ⟨i, hi, _⟩; omega
  | succ n ih =>
    rintro ⟨i0, hi0, hp0⟩
    by_cases hp : ∃ i, i < n ∧ p i = true
    · obtain ⟨i, hi, hpi, hm⟩ := ih hp
      by_cases c : p n = true ∧ f i < f n
      · refine ⟨n, by omega, c.1, fun j hj hpj => ?_⟩
        by_cases e : j = n
        · rw [e]; exact Nat.le_refl _
        · have := hm j (by omega) hpj
          have := c.2
          omega
      · refine ⟨i, by omega, hpi, fun j hj hpj => ?_⟩
        by_cases e : j = n
        · subst e
          have : ¬ f i < f j := fun h => c ⟨hpj, h⟩
          omega
        · exact hm j (by omega) hpj
    · have e0 : i0 = n := by
        by_cases e : i0 = n
        · exact e
        · exact absurd ⟨i0, by omega, hp0⟩ hp
      subst e0
      refine ⟨i0, by omega, hp0, fun j hj hpj => ?_⟩
      by_cases e : j = i0
      · rw [e]; exact Nat.le_refl _
      · exact absurd ⟨j, by omega, hpj⟩ hp
theorem elems_mono {s s' : Nat} (h : ∀ j, j < n → s.testBit j = true → s'.testBit j = true) : (elems n s).length ≤ (elems n s').length := by
  unfold elems
  rw [← List.countP_eq_length_filter, ← List.countP_eq_length_filter]
  exact List.countP_mono_left fun j hj hp => h j (List.mem_range.1 hj) hp
theorem setAt_bit (t i : Nat) : (setAt n l t).testBit i = true ↔ i < n ∧ ((LV n l i : Nat) : Int) ≤ (t : Int) ∧ (t : Int) ≤ rgt n l i n := by
  unfold setAt inAt
  rw [testBit_setOf, Bool.and_eq_true, decide_eq_true_iff, decide_eq_true_iff]
theorem setAt_anti (o : Ord n l) (h22 : no22 n l = true) (t : Nat) : anti n l (setAt n l t) = true := by
  refine (anti_iff o (setAt n l t) (setOf_lt _ _)).2 ?_
  intro i j hi hj
  rw [setAt_bit] at hi hj
  cases hb : B l i j with
  | false => rfl
  | true =>
    have := (ends_rep o h22 i j hi.1 hj.1).2 hb
    omega
theorem wide_eq (o : Ord n l) (h22 : no22 n l = true) : wide n l (2 ^ n) = most n l (mag n l) := by
  apply Nat.le_antisymm
  · refine wide_le _ _ fun s hs ha => ?_
    have ha := (anti_iff o s hs).1 ha
    by_cases h0 : ∃ i, i < n ∧ s.testBit i = true
    · obtain ⟨i, hi, hsi, hm⟩ := max_of (LV n l) (fun j => s.testBit j) n h0
      refine Nat.le_trans (elems_mono (s' := setAt n l (LV n l i)) fun j hj hsj => ?_) (most_ge _ _ ((lev_all o.toRel h22 _).2 ⟨i, hi, rfl⟩))
      rw [setAt_bit]
      have h1 := hm j hj hsj
      have h2 : ¬ rgt n l j n < ((LV n l i : Nat) : Int) := fun hh => by
        have := (ends_rep o h22 j i hj hi).1 hh
        rw [ha j i hsj hsi] at this
        cases this
      exact ⟨hj, by omega, by omega⟩
    · have : elems n s = [] := by
        rw [List.eq_nil_iff_forall_not_mem]
        intro i hi
        exact h0 ⟨i, mem_elems.1 hi⟩
      rw [this]
      exact Nat.zero_le _
  · exact most_le _ _ fun t ht => wide_ge _ _ (setOf_lt _ _) (setAt_anti o h22 t)
theorem setAt_free (o : Ord n l) (h22 : no22 n l = true) (t i : Nat) (ht : t < mag n l) (hi : i < n) : freeOf n l (setAt n l t) i = (setAt n l t).testBit i := by
  rw [Bool.eq_iff_iff, free_iff]
  constructor
  · intro H
    rw [setAt_bit]
    refine ⟨hi, ?_⟩
    refine Classical.byContradiction fun hno => ?_
    have hg := rgt_ge (n := n) (l := l) i n
    by_cases c : (t : Int) < ((LV n l i : Nat) : Int)
    · obtain ⟨x, hx, ex⟩ := rgt_all o h22 t ht
      have hg2 := rgt_ge (n := n) (l := l) x n
      have hb := (ends_rep o h22 x i hx hi).1 (by omega)
      have hne : x ≠ i := fun e => by rw [e] at ex; omega
      have := (free_bit i x).1 (H x ((setAt_bit _ _).2 ⟨hx, by omega, by omega⟩) hne)
      rw [this.2.2.1] at hb
      cases hb
    · obtain ⟨x, hx, ex⟩ := (lev_all o.toRel h22 t).1 ht
      have hg2 := rgt_ge (n := n) (l := l) x n
      have hb := (ends_rep o h22 i x hi hx).1 (by omega)
      have hne : x ≠ i := fun e => by rw [e] at ex; omega
      have := (free_bit i x).1 (H x ((setAt_bit _ _).2 ⟨hx, by omega, by omega⟩) hne)
      rw [this.2.1] at hb
      cases hb
  · intro hb j hj hne
    have ha := (anti_iff o (setAt n l t) (setOf_lt _ _)).1 (setAt_anti o h22 t)
    exact (free_bit i j).2 ⟨((setAt_bit _ _).1 hj).1, ha i j hb hj, ha j i hj hb, hne⟩
end
theorem cmpI_ok (a b : Int) : ∃ r, Ab4.f a b = some r ∧ True := by
  unfold Ab4.f Aa8.f
  simp only [bne_self_eq_false, Option.bind_some, Bool.false_eq_true, if_false]
  split
  · exact ⟨_, rfl, trivial⟩
  · split
    · exact ⟨_, rfl, trivial⟩
    · exact ⟨_, rfl, trivial⟩
theorem compareI_tot (l l' : List Int) (hl : l.length ≤ 1048576) : Tot (fun k => Aat.f k l l') (fun _ => True) := by
  unfold Aat.f
  refine Tot.up (S := Unit) (fun i _ k => Aat.l0 k l l' l (l.length : Int) (i : Int)) l.length (fun _ _ => True) ?_ ?_ 0 (by omega) () trivial
  · intro i _ hi _ next
    refine Tot.step (fun _ => rfl) ?_
    simp only [Aat.l0, if_pos (show (i : Int) < (l.length : Int) by omega), if_pos (show (0 : Int) ≤ (i : Int) by omega)]
    refine Tot.ite (fun _ => Tot.now trivial) fun c => ?_
    simp only [if_pos (show (i : Int) < (l'.length : Int) by omega)]
    refine Tot.obind (cmpI_ok _ _) fun r _ => ?_
    refine Tot.ite (fun _ => ?_) (fun _ => Tot.now trivial)
    rw [next64 i l.length hi (by omega)]
    exact next () trivial
  · intro _ _
    refine Tot.step (fun _ => rfl) ?_
    simp only [Aat.l0, if_neg (show ¬ (l.length : Int) < (l.length : Int) by omega)]
    exact Tot.ite (fun _ => Tot.now trivial) (fun _ => Tot.now trivial)
theorem nat_beq (a : Nat) : (((a : Nat) : Int) == 0) = (a == 0) := by
  rw [Bool.eq_iff_iff, beq_iff_eq, beq_iff_eq]
  omega
theorem allB_next (j : Nat) (p : Nat → Bool) : allB (j + 1) p = (allB j p && p j) := by
  unfold allB
  rw [List.range_succ, List.all_append]
  simp
theorem antichain_tot {n : Nat} {l : List Int} (h : Rel n l) : Tot (fun k => Aae.f k (n : Int) l) (fun r => r.length = wide n l (2 ^ n)) := by
  have hn := h.le
  have hp : (2 : Nat) ^ n ≤ 2 ^ 10 := Nat.pow_le_pow_right (by decide) hn
  unfold Aae.f
  refine Tot.ebind (indifs_ev h) ?_
  simp only [if_pos (show (0 : Int) ≤ (n : Int) by omega), shl1 n (by omega)]
  generalize hN : ((List.range n).map fun i => ((indif n l i : Nat) : Int)) = N
  have hNl : N.length = n := by rw [← hN]; simp
  have hNr : ∀ i, i < n → N.getD i 0 = ((indif n l i : Nat) : Int) := fun i hi => by rw [← hN]; simp [hi]
  refine Tot.up (fun m (x : List Int) k => Aae.l0 k x N ((2 ^ n : Nat) : Int) (m : Int)) (2 ^ n) (fun m x => x.length = wide n l m) ?_ ?_ 0 (Nat.zero_le _) [] rfl
  · intro m x hm hx next
    refine Tot.step (fun _ => rfl) ?_
    simp only [Aae.l0, if_pos (show (m : Int) < ((2 ^ n : Nat) : Int) by omega)]
    refine Tot.ebind (members_ev n (by omega) m hm) ?_
    rw [ints_length]
    refine Tot.up (S := Unit) (fun j _ k => Aae.l1 k x N (m : Int) (ints (elems n m)) (allB j fun q => freeOf n l m ((elems n m).getD q 0)) ((2 ^ n : Nat) : Int) (m : Int) (ints (elems n m)) ((elems n m).length : Int) (j : Int)) (elems n m).length (fun _ _ => True) ?_ ?_ 0 (by omega) () trivial
    · intro j _ hj _ nextj
      have nextj := nextj () trivial
      rw [allB_next] at nextj
      have hlen := elems_length_le n m
      refine Tot.step (fun _ => rfl) ?_
      have hm' : (elems n m).getD j 0 ∈ elems n m := by simp [hj]
      have hjn := (mem_elems.1 hm').1
      simp only [Aae.l1, if_pos (show (j : Int) < ((elems n m).length : Int) by omega), if_pos (show (0 : Int) ≤ (j : Int) by omega), ints_length, rd_nat, ints_getD _ j hj]
      cases hb : allB j fun q => freeOf n l m ((elems n m).getD q 0) with
      | false =>
        rw [hb, Bool.false_and] at nextj
        simp only [Bool.false_eq_true, if_false, next64 j _ hj (by omega)]
        exact nextj
      | true =>
        rw [hb, Bool.true_and] at nextj
        have hd : diff m (indif n l ((elems n m).getD j 0)) ≤ m := Nat.and_le_left
        have hi62 : indif n l ((elems n m).getD j 0) < 9223372036854775808 := setOf_62 _ _ (by omega)
        have e2 := andNot_i64 (diff m (indif n l ((elems n m).getD j 0))) (2 ^ ((elems n m).getD j 0)) (by omega) (two62 _ (by omega))
        have e1 := andNot_i64 m (indif n l ((elems n m).getD j 0)) (by omega) hi62
        simp only [if_true, if_pos (show (0 : Int) ≤ (((elems n m).getD j 0 : Nat) : Int) by omega), hNl, if_pos (show (((elems n m).getD j 0 : Nat) : Int) < (n : Int) by omega), hNr _ hjn, shl1 _ (show (elems n m).getD j 0 ≤ 62 by omega), e1, e2, nat_beq, next64 j _ hj (by omega)]
        exact nextj
    · intro _ _
      refine Tot.step (fun _ => rfl) ?_
      have hlen := elems_length_le n m
      simp only [Aae.l1, if_neg (show ¬ ((elems n m).length : Int) < ((elems n m).length : Int) by omega), ints_length]
      rw [show (allB (elems n m).length fun q => freeOf n l m ((elems n m).getD q 0)) = anti n l m from rfl, next64 m _ hm (by omega)]
      have keep : ¬ (anti n l m = true ∧ wide n l m < (elems n m).length) → Tot (fun k => Aae.l0 k x N ((2 ^ n : Nat) : Int) ((m + 1 : Nat) : Int)) (fun r => r.length = wide n l (2 ^ n)) := fun c => next x (by rw [wide, if_neg c]; exact hx)
      cases hb : anti n l m with
      | false => simp only [Bool.false_eq_true, if_false]; exact keep (fun c => by rw [hb] at c; cases c.1)
      | true =>
        simp only [if_true]
        refine Tot.ite (fun c => ?_) fun c => ?_
        · exact next _ (by rw [wide, if_pos ⟨hb, by omega⟩, ints_length])
        · have keep := keep (fun c' => by omega)
          refine Tot.ite (fun c2 => ?_) (fun _ => keep)
          refine Tot.bind (compareI_tot _ _ (by rw [ints_length]; omega)) fun r _ => ?_
          refine Tot.ite (fun _ => ?_) (fun _ => keep)
          exact next _ (by rw [wide, if_neg (fun c' => by omega), ints_length]; omega)
  · intro x hx
    refine Tot.step (fun _ => rfl) ?_
    simp only [Aae.l0, if_neg (show ¬ ((2 ^ n : Nat) : Int) < ((2 ^ n : Nat) : Int) by omega)]
    exact Tot.now hx
theorem LargestAntichain_tot {n : Nat} {l : List Int} (o : Ord n l) : ∃ r : List Int, Ev (fun k => Aa9.f k (n : Int) l) (r, true) ∧ r.length = wide n l (2 ^ n) := by
  obtain ⟨r, hr, e⟩ := antichain_tot o.toRel
  refine ⟨r, ?_, e⟩
  unfold Aa9.f
  refine Ev.bind (Ev.to (IsOrder_ev n l (by have := o.len; have := o.le; omega)) (isOrd_iff.2 ⟨n, rfl, o⟩)) ?_
  simp only [if_true]
  exact Ev.bind hr (Ev.now _)
theorem DrawSetsAlong_tot {l : List Int} (hb : By l) : Tot (fun k => Abk.f k l) (fun r => r.2.length ≤ 20) := by
  unfold Abk.f
  refine Tot.bind (Q := fun r : Int × List Int × Int × Int => r.2.1.length ≤ 20) ?_ (fun r hr => Tot.now hr)
  unfold Aaz.f
  refine Tot.bind (intervals2_tot hb) ?_
  rintro ⟨L, p1, h1⟩ ⟨hL, b1, b2⟩
  simp only at hL b1 b2
  have other : ∀ q g, 0 ≤ q → q ≤ 900 → Tot (fun k => Aaz.j0 k 7 L false l q g) (fun r => r.2.1.length ≤ 20) := by
    intro q g a1 a2
    refine Tot.step (fun _ => rfl) ?_
    simp only [Aaz.j0, Bool.false_eq_true, if_false]
    refine Tot.bind (anyOrder_tot hb q g 7 (by omega) (by omega) (by omega) (by omega)) ?_
    rintro ⟨m, y, q1, g1⟩ ⟨m1, m2, m3⟩
    simp only at m1
    exact Tot.now (by simp only; omega)
  refine Tot.ebind (ivGood_ev L (by omega)) ?_
  refine Tot.ite (fun _ => ?_) (fun _ => other p1 h1 (by omega) (by omega))
  refine Tot.obind (one_ok hb p1 h1 4 (by omega) (by omega)) ?_
  rintro ⟨b, p2, h2⟩ ⟨c1, c2⟩
  simp only at c1 c2
  cases b with
  | true => exact other p2 h2 (by omega) (by omega)
  | false =>
    refine Tot.step (fun _ => rfl) ?_
    simp only [Aaz.j0, Bool.not_false, if_true]
    exact Tot.ebind (ivOrder_ev L (by omega)) (Tot.now (by simp only [ivR_length]; omega))
end Go.Proofs.YtimjblnglhmakaaDoor.M
namespace Go.Proofs.YtimjblnglhmakaaDoor.Pure
open Go.RowKit Go.Proofs.YtimjblnglhmakaaDoorW.PrintMore Go.Proofs.YtimjblnglhmakaaDoorW.PrintLast Go.Proofs.YtimjblnglhmakaaDoorW.PrintWords Go.Proofs.YtimjblnglhmakaaDoor.P Go.Proofs.YtimjblnglhmakaaDoor.M
set_option maxRecDepth 4000
theorem FnSetsAlong : P.Aab.Pure := by
  intro l0 l1 _ hl0 hb _ hl1 _
  have hB := by_wf hb
  obtain ⟨⟨n, l⟩, hd, hlen⟩ := DrawSetsAlong_tot hB
  simp only at hlen
  refine Ev.rounds (g := fun k => Aab.f k l0 l1) ?_
  unfold Aab.f
  obtain ⟨b, hbig⟩ : ∃ b, Ab7.f l0 l1 = some b := by
    unfold Ab7.f
    split
    · exact ⟨_, rfl⟩
    · exact ⟨_, rfl⟩
  rw [hbig]
  simp only [Option.bind_some]
  cases b with
  | true => simp only [if_true]; exact Ev.now _
  | false =>
  simp only [Bool.false_eq_true, if_false]
  refine Ev.bind hd ?_
  refine Ev.bind (SetsAlong_ev n l (by omega)) ?_
  refine Ev.bind (sSetsAlong_ev n l (by omega)) ?_
  simp only [bne_self_eq_false, Bool.false_eq_true, if_false]
  cases hs : isInt n l with
  | false =>
    simp only [alongOf, hs, Bool.false_eq_true, if_false]
    refine Ev.bind (Ev.to (pSame_ev [] [] (by simp)) (r' := true) (decide_eq_true rfl)) ?_
    refine Ev.step (fun _ => rfl) ?_
    simp only [Aab.j0, Bool.not_true, Bool.false_eq_true, if_false]
    exact Ev.now _
  | true =>
  have h22 := int_22 hs
  obtain ⟨n, rfl, o⟩ := isOrd_iff.1 (isInt_ord hs)
  rw [Int.toNat_natCast] at h22
  have h := o.toRel
  have hn := o.le
  have hm := mag_le h
  have hEl := endsL_length n l
  have hSl := setsL_length (n := n) (l := l)
  simp only [alongOf, hs, if_true, Int.toNat_natCast]
  refine Ev.bind (Ev.to (pSame_ev (setsL n l) (setsL n l) (by omega)) (r' := true) (decide_eq_true rfl)) ?_
  refine Ev.step (fun _ => rfl) ?_
  simp only [Aab.j0, Bool.not_true, Bool.false_eq_true, if_false, if_true]
  obtain ⟨r, hr, hrl⟩ := LargestAntichain_tot o
  refine Ev.bind (Ev.to (EndsOf_ev (n : Int) l (by omega)) (r' := (endsL n l, true)) (by unfold endsOf; rw [hs, if_pos rfl, Int.toNat_natCast])) ?_
  refine Ev.bind (Ev.to (MagnitudeOf_ev (n : Int) l (by omega)) (r' := (((mag n l : Nat) : Int), true)) (by unfold magOf; rw [hs, if_pos rfl, Int.toNat_natCast])) ?_
  refine Ev.bind hr ?_
  simp only [if_true, hSl, bne_self_eq_false]
  refine Ev.step (fun _ => rfl) ?_
  simp only [Aab.j1, Bool.false_eq_true, if_false, hSl]
  refine Ev.up (fun t k => Aab.l0 k (endsL n l) r ((most n l t : Nat) : Int) (setsL n l) ((mag n l : Nat) : Int) (t : Int) (n : Int) l) (mag n l) ?_ ?_
  · intro t ht next
    have many := pMany_ev n (setAt n l t) hn (setOf_lt _ _)
    have rest : ∀ M : Int, M = ((most n l (t + 1) : Nat) : Int) → Ev (fun k => Aab.j3 k (endsL n l) r M (t : Int) ((setAt n l t : Nat) : Int) (setsL n l) ((mag n l : Nat) : Int) (t : Int) (n : Int) l) true := by
      rintro M rfl
      refine Ev.step (fun _ => rfl) ?_
      simp only [Aab.j3, hEl]
      refine Ev.up (fun i k => Aab.l1 k (endsL n l) r ((most n l (t + 1) : Nat) : Int) (t : Int) ((setAt n l t : Nat) : Int) (setsL n l) ((mag n l : Nat) : Int) (t : Int) (endsL n l) (n : Int) (i : Int) (n : Int) l) n ?_ ?_
      · intro i hi nexti
        have tail : ∀ b : Bool, b = false → Ev (fun k => Aab.j5 k (endsL n l) r ((most n l (t + 1) : Nat) : Int) (t : Int) ((setAt n l t : Nat) : Int) (i : Int) ((indif n l i : Nat) : Int) (setsL n l) ((mag n l : Nat) : Int) (t : Int) (endsL n l) (n : Int) (i : Int) b (n : Int) l) true := by
          rintro b rfl
          have hd : diff (setAt n l t) (indif n l i) ≤ setAt n l t := Nat.and_le_left
          have hs62 : setAt n l t < 9223372036854775808 := setOf_62 _ _ (by omega)
          have hi62 : indif n l i < 9223372036854775808 := setOf_62 _ _ (by omega)
          have e1 := andNot_i64 (setAt n l t) (indif n l i) hs62 hi62
          have e2 := andNot_i64 (diff (setAt n l t) (indif n l i)) (2 ^ i) (by omega) (two62 _ (by omega))
          have e3 : (diff (diff (setAt n l t) (indif n l i)) (2 ^ i) == 0) = (setAt n l t).testBit i := setAt_free o h22 t i ht hi
          refine Ev.step (fun _ => rfl) ?_
          simp only [Aab.j5, Bool.false_eq_true, if_false, if_pos (show (0 : Int) ≤ (i : Int) by omega), pIn_eq _ i (show i ≤ 64 by omega), Option.bind_some, shl1 i (by omega), e1, e2, nat_beq, e3, bne_self_eq_false, next64 i n hi (by omega)]
          exact nexti
        refine Ev.step (fun _ => rfl) ?_
        simp only [Aab.l1, if_pos (show (i : Int) < (n : Int) by omega), if_pos (show (0 : Int) ≤ (i : Int) by omega), hEl]
        refine Ev.bind (IndifferentTo_ev h i hi) ?_
        simp only [if_true, pIn_eq _ i (show i ≤ 64 by omega), Option.bind_some, rd_iv0, rd_iv1, endsL_f0 i hi, endsL_f1 i hi]
        by_cases c : ((LV n l i : Nat) : Int) ≤ (t : Int)
        · simp only [if_pos c]
          refine tail _ ?_
          have : (setAt n l t).testBit i = decide ((t : Int) ≤ rgt n l i n) := by
            rw [Bool.eq_iff_iff, setAt_bit, decide_eq_true_iff]
            exact ⟨fun h => h.2.2, fun h => ⟨hi, c, h⟩⟩
          rw [this, bne_self_eq_false]
        · simp only [if_neg c]
          refine tail _ ?_
          have : (setAt n l t).testBit i = false := by
            cases hb : (setAt n l t).testBit i with
            | false => rfl
            | true => exact absurd ((setAt_bit _ _).1 hb).2.1 c
          rw [this, bne_self_eq_false]
      · refine Ev.step (fun _ => rfl) ?_
        simp only [Aab.l1, if_neg (show ¬ (n : Int) < (n : Int) by omega), next64 t (mag n l) ht (by omega)]
        exact next
    refine Ev.step (fun _ => rfl) ?_
    simp only [Aab.l0, if_pos (show (t : Int) < ((mag n l : Nat) : Int) by omega), if_pos (show (0 : Int) ≤ (t : Int) by omega), hSl, setsL_rd t ht]
    refine Ev.bind many ?_
    by_cases c : most n l t < (elems n (setAt n l t)).length
    · simp only [if_pos (show (((elems n (setAt n l t)).length : Nat) : Int) > ((most n l t : Nat) : Int) by omega)]
      refine Ev.bind many ?_
      exact rest _ (by rw [most, if_pos c])
    · simp only [if_neg (show ¬ (((elems n (setAt n l t)).length : Nat) : Int) > ((most n l t : Nat) : Int) by omega)]
      exact rest _ (by rw [most, if_neg c])
  · refine Ev.step (fun _ => rfl) ?_
    simp only [Aab.l0, if_neg (show ¬ ((mag n l : Nat) : Int) < ((mag n l : Nat) : Int) by omega), hrl, wide_eq o h22]
    exact Ev.to (Ev.now _) (by simp)
end Go.Proofs.YtimjblnglhmakaaDoor.Pure
namespace Go.Proofs.YtimjblnglhmakaaDoorW.PrintWords
open Go.ChangeShapes Go.WideShapes
theorem sized_ints {H : Type} {enc : TypeId × Value → H} {P : Program} {W : World} {base : Nat} {spare : Nat → Bool} {held : Bool} {t e : TypeId} {k : IntKind} {a : Option Addr} {len cap : Nat} {d : DataW H} {ps : List MemPlace} {ts : List TypeId} {ds : List (DataW H)} {j : Nat}
    (hsz : (DataW.weightsEach P ts ds).all (· ≤ reachBytes) = true) (ht : ts[j]? = some t) (hd : ds[j]? = some d) (hu : P.underlying t = some (.slice e)) (he : P.underlying e = some (.int k)) (hc : P.cellsOf e = 1) {B : Nat} (hB : P.bytesOf e = B)
    (h : DataW.Trod enc P W base spare held t (.slice a len cap) d ps) : len * B ≤ 140737488351232 := by
  obtain ⟨fuel, hf⟩ := h
  rcases open_ints hu he hc hf with ⟨hcs, _⟩ | ⟨x, l, c, zs, hcs, _, hl, _, hz, hx, _, _⟩
  · simp [Value.cells] at hcs
    obtain ⟨rfl, rfl, rfl⟩ := hcs
    simp
  · simp [Value.cells] at hcs
    obtain ⟨rfl, rfl, rfl⟩ := hcs
    obtain ⟨hx, _⟩ := Prod.mk.inj hx
    subst hx
    have z := sized_slice hsz ht hd hu
    rw [hB] at z
    have hl2 : len ≤ zs.length := by
      rw [hz]
      split
      · exact hl
      · exact Nat.le_refl _
    have h1 : (lits (H := H) k (zs.take len)).length + (lits (H := H) k (zs.drop len)).length = zs.length := by
      simp [lits]
      omega
    rw [h1] at z
    exact Nat.le_trans (Nat.mul_le_mul_right _ hl2) z
end Go.Proofs.YtimjblnglhmakaaDoorW.PrintWords
namespace Go.Proofs.YtimjblnglhmakaaDoor.fnSetsAlong
open Go.ChangeShapes Go.WideShapes Go.ChangeAt Go.RowKit
open Go.ChangeMaps (open_string shut_string)
open Go.Proofs.YtimjblnglhmakaaDoorW
set_option linter.unusedVariables false
theorem own : ownKnob Tryd.prog.godebug = none := by kernel_rfl
theorem laidOut : laidOutB Tryd.prog = true := by kernel_rfl
def IsRow (k : IntKind) (w : World) (a : Option Addr) (len cap : Nat) (zs : List Int) : Prop :=
  (a = none ∧ len = 0 ∧ cap = 0 ∧ zs = []) ∨
  ∃ x, a = some x ∧ len ≤ cap ∧ cap ≤ maxLen ∧ zs.length = cap ∧ (∀ i, i < zs.length → w.cell? (x.add i) = some (.int k (zs.getD i 0))) ∧ ∀ n ∈ zs, (Lit.int k n).wf = true
theorem gT : Tryd.prog.globalNamed "math/bits.deBruijn64tab" = some 1 := by kernel_rfl
theorem tT : (Tryd.prog.globals[1]?).map (·.type) = some 162 := by kernel_rfl
theorem cT : Tryd.prog.cellsOf 162 = 64 := by kernel_rfl
theorem cE : Tryd.prog.cellsOf 5 = 1 := by kernel_rfl
def tab64 : List Int := Lib.deBruijn64tab.map fun (z : Nat) => (z : Int)
theorem tab64_at : ∀ j, j < 64 → tab64.getD j 0 = ((Lib.deBruijn64tab.getD j 0 : Nat) : Int) := by decide +kernel
theorem table {W : World} (h : laidMetH Tryd.prog Rows.fnSetsAlongRow.laid W) : P.TabOK W := by
  rw [MakeChecks.laidMetH_plain _ _ _ (by kernel_rfl)] at h
  have h1 : laidMet Tryd.prog [("math/bits.deBruijn32tab", Rows.laid_math_bits_deBruijn32tab), ("math/bits.deBruijn64tab", Lib.tabData .u8 tab64)] W := h
  have h0 := laidMet.tail (h1)
  have ht := Lib.tabIs_of_head gT tT Tryd.underlying162 Tryd.underlying5 cE cT h0
  intro j hj
  rw [ht.cell gT j (by exact hj), tab64_at j hj]
theorem door_met (os : Os) (args : Array Value) : laidMetH Tryd.prog Rows.fnSetsAlongRow.laid ((World.doorLaid Tryd.prog 400 os).forCall (fun _ _ => 0) ⟨#[], args, []⟩).memory :=
  laidMetH_of_parts3 (fuel := 8) (laidMet_of_run' 8 (by kernel_rfl) (by kernel_rfl)) (by kernel_rfl) (by kernel_rfl)
set_option maxRecDepth 100000 in
theorem lifted (os : Os) (started : os.Started) (H : Type) (enc : TypeId × Value → H) :
    ReturnsInHanded {} Tryd.checked os 13 .any (fun w args => (Rows.fnSetsAlongSpec.pre enc Tryd.prog Tryd.f13 [] false w args ∧ laidMetH Tryd.prog Rows.fnSetsAlongRow.laid w) ∧ sizedMet enc Tryd.prog Tryd.f13 (OpenSpec.ofChange Rows.fnSetsAlongSpec) false w args)
      (Rows.fnSetsAlongSpec.post enc Tryd.prog Tryd.f13 false true false false) := by
  refine returnsInHanded_of_change_and (C := Tryd.checked) (X := fun w _ => laidMetH Tryd.prog Rows.fnSetsAlongRow.laid w) (fun _ _ _ hh h => h.of_heap hh) own started (by kernel_rfl) Tryd.func13
    (ChangeSpec.witness_shaped (enc := enc) (C := Tryd.checked) (os := os) (X := fun w _ => laidMetH Tryd.prog Rows.fnSetsAlongRow.laid w) false (World.doorLaid Tryd.prog 400 os) #[.slice none 0 0, .slice none 0 0] 8 rfl (World.shaped_of_RefB (by kernel_rfl) (by kernel_rfl)) (by kernel_rfl) (by kernel_rfl) (by kernel_rfl) (door_met os _)) ?_
  intro W base args ds gs before hval0 hW hcnd hsz0 hL _
  have hsz : (DataW.weightsEach Tryd.prog (Tryd.f13.params.toList ++ Rows.fnSetsAlongSpec.plain.varTypes Tryd.prog) (ds ++ gs)).all (· ≤ reachBytes) = true := hsz0
  have hval : ∀ (j : Nat) t v, Tryd.f13.params[j]? = some t → args[j]? = some v → Value.okWide Tryd.prog W .any base t v := hval0
  have hW' := hW
  obtain ⟨p, q, hA0, hV, rfl, hfz, hnd⟩ := hW
  have hA : DataW.TrodAll enc Tryd.prog W 0 (fun _ => true) true Tryd.f13.params.toList args.toList ds p := hA0
  rw [Tryd.params13] at hA hval hsz
  obtain ⟨v0, vs0, d0, ds0, p0, q0, hargs, rfl, rfl, h0, r0⟩ := trodAll_cons hA
  obtain ⟨v1, vs1, d1, ds1, p1, q1, rfl, rfl, rfl, h1, r1⟩ := trodAll_cons r0
  obtain ⟨rfl, rfl, rfl⟩ := trodAll_nil r1
  obtain rfl : args = #[v0, v1] := by cases args; simp_all
  obtain ⟨rfl, rfl⟩ := trodVars_none hV
  obtain ⟨a0, len0, cap0, rfl⟩ := okWide_slice Tryd.underlying35 (hval 0 35 v0 rfl rfl)
  have k0 := h0
  have lt0 : ∀ x ∈ p0, x.block < W.heap.size := by obtain ⟨m, hm⟩ := k0; exact DataW.trod_lt m _ _ _ hm
  obtain ⟨z0, w0⟩ : ∃ zs, IsRow .u8 W a0 len0 cap0 zs := by
    obtain ⟨fuel, hf⟩ := h0
    rcases open_ints Tryd.underlying35 Tryd.underlying5 (by kernel_rfl) hf with ⟨hcs, _⟩ | ⟨x, l, c, zs, hcs, _, hl, hm, hz, _, hcell, hwz⟩
    · simp [Value.cells] at hcs
      obtain ⟨rfl, rfl, rfl⟩ := hcs
      exact ⟨[], .inl ⟨rfl, rfl, rfl, rfl⟩⟩
    · simp [Value.cells] at hcs
      obtain ⟨rfl, rfl, rfl⟩ := hcs
      exact ⟨zs, .inr ⟨_, rfl, hl, hm, by simpa using hz, hcell, hwz⟩⟩
  have y0 : len0 * 1 ≤ 140737488351232 := PrintWords.sized_ints hsz (j := 0) (t := 35) rfl rfl Tryd.underlying35 Tryd.underlying5 (by kernel_rfl) (by kernel_rfl) h0
  obtain ⟨a1, len1, cap1, rfl⟩ := okWide_slice Tryd.underlying35 (hval 1 35 v1 rfl rfl)
  have k1 := h1
  have lt1 : ∀ x ∈ p1, x.block < W.heap.size := by obtain ⟨m, hm⟩ := k1; exact DataW.trod_lt m _ _ _ hm
  obtain ⟨z1, w1⟩ : ∃ zs, IsRow .u8 W a1 len1 cap1 zs := by
    obtain ⟨fuel, hf⟩ := h1
    rcases open_ints Tryd.underlying35 Tryd.underlying5 (by kernel_rfl) hf with ⟨hcs, _⟩ | ⟨x, l, c, zs, hcs, _, hl, hm, hz, _, hcell, hwz⟩
    · simp [Value.cells] at hcs
      obtain ⟨rfl, rfl, rfl⟩ := hcs
      exact ⟨[], .inl ⟨rfl, rfl, rfl, rfl⟩⟩
    · simp [Value.cells] at hcs
      obtain ⟨rfl, rfl, rfl⟩ := hcs
      exact ⟨zs, .inr ⟨_, rfl, hl, hm, by simpa using hz, hcell, hwz⟩⟩
  have y1 : len1 * 1 ≤ 140737488351232 := PrintWords.sized_ints hsz (j := 1) (t := 35) rfl rfl Tryd.underlying35 Tryd.underlying5 (by kernel_rfl) (by kernel_rfl) h1
  clear hA0 hval0 hsz0 hsz
  refine (P.Aab.walk Pure.FnSetsAlong a0 len0 cap0 z0 a1 len1 cap1 z1 W w0 y0 w1 y1 (table hL)).mono fun e W' ⟨he, bel⟩ => ?_
  subst he
  exact ⟨_, rfl, _, _, _, [], _, [], hW', trodAll_mk1 (shut_bool Tryd.underlying4 _), (trodAll_cons_mk (Below.trod laidOut (by kernel_rfl) (of_decide_eq_true (by kernel_rfl)) k0 bel lt0) (trodAll_cons_mk (Below.trod laidOut (by kernel_rfl) (of_decide_eq_true (by kernel_rfl)) k1 bel lt1) trodAll_mk0)), rfl, bel.frame _, fun h => by cases h⟩
set_option maxHeartbeats 8000000 in
theorem named_ : Tryd.pinned.checked.prog.funcNamed "loop.example/g01106/laws.FnSetsAlong" = some 13 := by kernel_rfl
set_option maxHeartbeats 8000000 in
theorem joined_ : joinedFacts Tryd.pinned.checked.prog 13 Tryd.f13 Rows.fnSetsAlongSpec Rows.fnSetsAlongRow = true := by
  unfold joinedFacts
  repeat' (with_reducible refine (Bool.and_eq_true_iff).2 ⟨?_, ?_⟩)
  all_goals (as_aux_lemma => kernel_rfl)
theorem over : Rows.fnSetsAlongRow.holds Tryd.pinned (OpenSpec.ofChange Rows.fnSetsAlongSpec) :=
  OpenClaim.holds_of_wide 13 Tryd.f13 rfl rfl rfl rfl rfl rfl rfl ⟨rfl, rfl, rfl, rfl, rfl⟩ rfl rfl rfl rfl rfl named_ Tryd.func13 joined_
    (of_decide_eq_true (by kernel_rfl)) (by unfold Func.isWrapper; first | (rw [if_pos (by decide +kernel)]; kernel_rfl) | (rw [if_neg (by decide +kernel)]; exact ⟨rfl, rfl⟩))
    (fun os started H enc _ => lifted os started H enc)
set_option maxHeartbeats 8000000 in
theorem main_ : Tryd.pinned.checked.prog.mainIs = some (true, "db67f5b5a54c9f31397de544f55d48fa9d1bcc0f366770764b110f372f5e00c3".toList) := by kernel_rfl
set_option maxHeartbeats 8000000 in
theorem looks_ : true = Tryd.pinned.checked.prog.looks [] := by kernel_rfl
theorem stand_ : ([35].all fun u => !Tryd.prog.wantsStandIn u) = true := by kernel_rfl
set_option maxHeartbeats 8000000 in
theorem goes_ : false = Rows.fnSetsAlongRow.goesBy Tryd.pinned.checked.prog := by kernel_rfl
theorem wf_ : Rows.fnSetsAlongRow.wfByText (OpenSpec.ofChange Rows.fnSetsAlongSpec) = true := by kernel_rfl
theorem proved : Rows.FnSetsAlongCardSaid :=
  Claim7.holds_tied_plain_at .later [] [.data, .data] true (true, "db67f5b5a54c9f31397de544f55d48fa9d1bcc0f366770764b110f372f5e00c3") true
    over (fun _ h => by cases h) wf_ (fun _ h => by cases h) fnSetsAlong_row_tie rfl ⟨rfl, rfl⟩ main_ rfl
    (fun f fn hf hfn => by
      obtain rfl : f = 13 := Option.some.inj (named_.symm.trans hf) |>.symm
      obtain rfl : fn = Tryd.f13 := (Option.some.inj (Tryd.func13.symm.trans hfn)).symm
      exact ⟨looks_, fun j t ht => by
        rw [Tryd.params13] at ht
        have hm : t ∈ [35] := by have hq := Array.mem_of_getElem? ht; simp at hq; simp [hq]
        exact (show Tryd.prog.wantsStandIn t = false by simpa using List.all_eq_true.1 stand_ t hm)⟩)
    goes_
end Go.Proofs.YtimjblnglhmakaaDoor.fnSetsAlong
namespace Go.Proofs.YtimjblnglhmakaaDoor
theorem fnSetsAlong_holds : Rows.FnSetsAlongCardSaid := fnSetsAlong.proved
end Go.Proofs.YtimjblnglhmakaaDoor
