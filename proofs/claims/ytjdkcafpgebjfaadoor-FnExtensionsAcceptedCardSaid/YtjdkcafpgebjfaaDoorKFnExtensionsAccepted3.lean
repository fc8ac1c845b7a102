/- A part of the proof that the law FnExtensionsAccepted holds at every input. Written by wip/pack.py: the kit's printed words that are used, the functions' walks as wip/gen.py prints them, and hand proofs. -/
import Derived.Test.YtjdkcafpgebjfaaDoorKFnExtensionsAccepted2
namespace Go.Proofs.YtjdkcafpgebjfaaDoor.P
open Bool renaming true → T, false → F
open List renaming setIfInBounds_toArray → L_, set_cons_zero → M_, set_cons_succ → N_
open Go.RowKit Go.Proofs.YtjdkcafpgebjfaaDoorW.PrintWords Go.Proofs.YtjdkcafpgebjfaaDoorW.PrintLast Go.Proofs.YtjdkcafpgebjfaaDoorW.PrintMore
attribute [local go_sem] max2_int min2_int max_two min_two max_three min_three max_four min_four
set_option linter.unusedVariables false
set_option linter.unusedSimpArgs false
attribute [local go_sem] fldOrder_0 fldOrder_1
mutual
def spec_l1Cur_order.l0 : Nat → Int → Int → List Int → List Int → Int → List Int → Int → Int → Int → List Int → Option (Int × List Int × Int × Int)
 | 0, _, _, _, _, _, _, _, _, _, _ => none
 | k + 1, x5, x7, x8, x9, x10, x1000, x1001, x1002, x504000, x504001 => if x10 < x5 then ((spec_l1Cur_pick.f x1000 x1001 x1002 8).bind fun bt507 => (if x8.length < 17592186044416 then ((some (x8 ++ [bt507.1] : List Int)).bind fun y510 => (if x7 = 1 then ((spec_l1Cur_pick.f x1000 bt507.2.1 bt507.2.2 4).bind fun bt513 => (if x9.length < 17592186044416 then (spec_l1Cur_order.l0 k x5 x7 y510 (x9 ++ [wrap64 (bt507.1 + bt513.1)]) (wrap64 (x10 + 1)) x1000 bt513.2.1 bt513.2.2 x504000 x504001) else (none))) else (if x9.length < 17592186044416 then (spec_l1Cur_order.l0 k x5 x7 y510 (x9 ++ [wrap64 (bt507.1 + 2)]) (wrap64 (x10 + 1)) x1000 bt507.2.1 bt507.2.2 x504000 x504001) else (none)))) else (none))) else (spec_l1Cur_order.l1 k x5 x7 x8 x9 0 x1000 x1001 x1002 x504000 x504001)
def spec_l1Cur_order.l1 : Nat → Int → Int → List Int → List Int → Int → List Int → Int → Int → Int → List Int → Option (Int × List Int × Int × Int)
 | 0, _, _, _, _, _, _, _, _, _, _ => none
 | k + 1, x5, x7, x8, x9, x12, x1000, x1001, x1002, x504000, x504001 => if x12 < x5 then (spec_l1Cur_order.l2 k x5 x7 x8 x9 x12 0 x1000 x1001 x1002 x504000 x504001) else (if x7 > 0 then (some (x504000, x504001, x1001, x1002)) else ((spec_CloseRelation.f k x504000 x504001).bind fun bt522 => (some (bt522.1, bt522.2.1, x1001, x1002))))
def spec_l1Cur_order.l2 : Nat → Int → Int → List Int → List Int → Int → Int → List Int → Int → Int → Int → List Int → Option (Int × List Int × Int × Int)
 | 0, _, _, _, _, _, _, _, _, _, _, _ => none
 | k + 1, x5, x7, x8, x9, x12, x13, x1000, x1001, x1002, x504000, x504001 => if x13 < x5 then (if x7 > 0 then (if 0 ≤ x12 then (if x12 < (x9.length : Int) then (if 0 ≤ x13 then (if x13 < (x8.length : Int) then (if (rd x9 x12) < (rd x8 x13) then (if x12 < (x504001.length : Int) then (spec_l1Cur_order.l2 k x5 x7 x8 x9 x12 (wrap64 (x13 + 1)) x1000 x1001 x1002 x504000 (x504001.set (x12 : Int).toNat (Go.bits .or .i64 (rd x504001 x12) (shl .i64 1 x13)))) else (none)) else (if x7 = 0 then (if x12 < x13 then ((spec_l1Cur_one.f x1000 x1001 x1002 3).bind fun bt532 => (if bt532.1 = true then (if x12 < (x504001.length : Int) then (spec_l1Cur_order.l2 k x5 x7 x8 x9 x12 (wrap64 (x13 + 1)) x1000 bt532.2.1 bt532.2.2 x504000 (x504001.set (x12 : Int).toNat (Go.bits .or .i64 (rd x504001 x12) (shl .i64 1 x13)))) else (none)) else (spec_l1Cur_order.l2 k x5 x7 x8 x9 x12 (wrap64 (x13 + 1)) x1000 bt532.2.1 bt532.2.2 x504000 x504001))) else (spec_l1Cur_order.l2 k x5 x7 x8 x9 x12 (wrap64 (x13 + 1)) x1000 x1001 x1002 x504000 x504001)) else (spec_l1Cur_order.l2 k x5 x7 x8 x9 x12 (wrap64 (x13 + 1)) x1000 x1001 x1002 x504000 x504001))) else (none)) else (none)) else (none)) else (none)) else (if x7 = 0 then (if x12 < x13 then ((spec_l1Cur_one.f x1000 x1001 x1002 3).bind fun bt537 => (if bt537.1 = true then (if 0 ≤ x12 then (if x12 < (x504001.length : Int) then (if 0 ≤ x13 then (spec_l1Cur_order.l2 k x5 x7 x8 x9 x12 (wrap64 (x13 + 1)) x1000 bt537.2.1 bt537.2.2 x504000 (x504001.set (x12 : Int).toNat (Go.bits .or .i64 (rd x504001 x12) (shl .i64 1 x13)))) else (none)) else (none)) else (none)) else (spec_l1Cur_order.l2 k x5 x7 x8 x9 x12 (wrap64 (x13 + 1)) x1000 bt537.2.1 bt537.2.2 x504000 x504001))) else (spec_l1Cur_order.l2 k x5 x7 x8 x9 x12 (wrap64 (x13 + 1)) x1000 x1001 x1002 x504000 x504001)) else (spec_l1Cur_order.l2 k x5 x7 x8 x9 x12 (wrap64 (x13 + 1)) x1000 x1001 x1002 x504000 x504001))) else (spec_l1Cur_order.l1 k x5 x7 x8 x9 (wrap64 (x12 + 1)) x1000 x1001 x1002 x504000 x504001)
end
def spec_l1Cur_order.f (k : Nat) (s0_0 : List Int) (s0_1 : Int) (s0_2 : Int) (a1 : Int) : Option (Int × List Int × Int × Int) := (spec_l1Cur_pick.f s0_0 s0_1 s0_2 (wrap64 (a1 + 1))).bind fun bt497 => (if 0 ≤ bt497.1 then (if (bt497.1 : Int).toNat ≤ 35184372088832 then ((spec_l1Cur_pick.f s0_0 bt497.2.1 bt497.2.2 3).bind fun bt504 => (spec_l1Cur_order.l0 k bt497.1 bt504.1 ([] : List Int) ([] : List Int) 0 s0_0 bt504.2.1 bt504.2.2 bt497.1 (List.replicate (bt497.1 : Int).toNat 0))) else (none)) else (none))
def spec_l1Cur_order.T19 : Bool × List (List Nat × List Nat) := (true, [([], []), ([0], [0]), ([1], [1]), ([2], [2]), ([2], [2]), ([3, 4, 2], [2, 3, 4]), ([5, 2], [2, 5]), ([2], [2]), ([2], [2]), ([7, 8, 2], [2, 7, 8]), ([9, 2], [2, 9]), ([6, 10, 2], [2, 6, 10]), ([2, 11], [2, 11]), ([12, 2], [12]), ([13], [13]), ([14, 13], [13, 14]), ([15, 13, 13], [13, 15]), ([16], [16]), ([16], [16]), ([17, 18, 16], [16, 17, 18]), ([16, 19, 13], [13, 16, 19]), ([20, 16, 13], [13, 20]), ([21], [21]), ([22, 21, 21], [21, 22]), ([21, 23, 13], [13, 21, 23]), ([13, 24], [13, 24])])
def spec_l1Cur_order.B19 : List Nat := [0, 1, 3, 7, 7, 31, 63, 7, 7, 391, 903, 2047, 4095, 8191, 16383, 32767, 65535, 131071, 131071, 524287, 1048575, 2097151, 4194303, 8388607, 16777215, 33554431]
theorem spec_l1Cur_order.tab19 : rtab .any (opsOf Tryd.f154 19) = spec_l1Cur_order.T19 := by kernel_rfl
theorem spec_l1Cur_order.bits19 : waitsOk spec_l1Cur_order.T19.2 spec_l1Cur_order.B19 = true := by kernel_rfl
def spec_l1Cur_order.T20 : Bool × List (List Nat × List Nat) := (true, [([], []), ([0], [0]), ([], []), ([1, 2], [1, 2]), ([3], [3]), ([], []), ([5], [5]), ([4, 6], [4, 6]), ([1, 2, 0, 1, 2, 3, 4, 5, 6, 7], [1, 2]), ([8, 7, 0, 1, 2, 3, 4, 5, 6, 7], [7, 8])])
def spec_l1Cur_order.B20 : List Nat := [0, 1, 0, 7, 15, 0, 32, 127, 255, 511]
theorem spec_l1Cur_order.tab20 : rtab .any (opsOf Tryd.f154 20) = spec_l1Cur_order.T20 := by kernel_rfl
theorem spec_l1Cur_order.bits20 : waitsOk spec_l1Cur_order.T20.2 spec_l1Cur_order.B20 = true := by kernel_rfl
set_option maxHeartbeats 8000000 in
set_option maxRecDepth 100000 in
theorem spec_l1Cur_order.calls (k : Nat) (g : Nat) (s0_0 : List Int) (s0_1 : Int) (s0_2 : Int) (a1 : Int) (r1 : Int) (r2 : List Int) (r3 : Int) (r4 : Int) (w0 w : World) (hI : IsS72 w0 w g s0_0 s0_1 s0_2) (hB : Below w0.heap.size w0 w) (h : spec_l1Cur_order.f k s0_0 s0_1 s0_2 a1 = some (r1, r2, r3, r4)) :
 Calls Tryd.prog 154 #[.pointer (some ⟨g, 0, none⟩), .int .i64 a1] w fun e w' => ∃ v1_ : Value, e = .returned (.agg #[.int .i64 r1, v1_]) ∧ Kd.R (Kd.int .i64) 3 w' w.heap.size (fun _ => True) v1_ r2 ∧ IsS72 w0 w' g s0_0 r3 r4 ∧ Below w0.heap.size w0 w' ∧ KeepBut w w' g none := by
 have hu26 := Tryd.underlying26
 have HI0 := Aside0.mk hI
 have HK := Aside0.mk (KeepBut.refl w g none)
 have HL := Aside0.mk hB.size
 clear hI
 have HW0 := Aside0.mk hB.size
 have HB := Aside0.mk hB
 clear hB
 have H : ((spec_l1Cur_pick.f s0_0 s0_1 s0_2 (wrap64 (a1 + 1))).bind fun bt497 => (if 0 ≤ bt497.1 then (if (bt497.1 : Int).toNat ≤ 35184372088832 then ((spec_l1Cur_pick.f s0_0 bt497.2.1 bt497.2.2 3).bind fun bt504 => (spec_l1Cur_order.l0 k bt497.1 bt504.1 ([] : List Int) ([] : List Int) 0 s0_0 bt504.2.1 bt504.2.2 bt497.1 (List.replicate (bt497.1 : Int).toNat 0))) else (none)) else (none))) = some (r1, r2, r3, r4) := h
 clear h
 replace H := Option.bind_eq_some_iff.mp H
 obtain ⟨⟨t497, t498, t499⟩, A30, H⟩ := H
 replace H : (if 0 ≤ t497 then (if (t497 : Int).toNat ≤ 35184372088832 then ((spec_l1Cur_pick.f s0_0 t498 t499 3).bind fun bt504 => (spec_l1Cur_order.l0 k t497 bt504.1 ([] : List Int) ([] : List Int) 0 s0_0 bt504.2.1 bt504.2.2 t497 (List.replicate (t497 : Int).toNat 0))) else (none)) else (none)) = some (r1, r2, r3, r4) := H
 have A3 := Aside0.mk A30
 clear A30
 by_cases c4 : 0 ≤ t497
 ·rw [if_pos c4] at H
  have c4b0 := eq_true c4
  have c4b1 : decide (0 ≤ t497) = true := decide_eq_true c4
  clear c4
  by_cases c5 : (t497 : Int).toNat ≤ 35184372088832
  ·rw [if_pos c5] at H
   have c5b0 := eq_true c5
   have c5b1 : decide ((t497 : Int).toNat ≤ 35184372088832) = true := decide_eq_true c5
   clear c5
   obtain ⟨y500, hy500⟩ : ∃ y_ : List Int, y_ = (List.replicate (t497 : Int).toNat 0) := ⟨_, rfl⟩
   replace H : ((spec_l1Cur_pick.f s0_0 t498 t499 3).bind fun bt504 => (spec_l1Cur_order.l0 k t497 bt504.1 ([] : List Int) ([] : List Int) 0 s0_0 bt504.2.1 bt504.2.2 t497 y500)) = some (r1, r2, r3, r4) := by first | (rw [hy500]; with_reducible exact H) | (have H2_ := (Option.bind_some _ _).symm.trans H; rw [hy500]; with_reducible exact H2_) | (have H2_ := (Option.bind_some _ _).symm.trans H; with_reducible exact H2_) | with_reducible exact H | (rw [hy500]; exact H) | exact H
   have Ny500 := Aside0.mk hy500
   clear hy500
   replace H := Option.bind_eq_some_iff.mp H
   obtain ⟨⟨t504, t505, t506⟩, A60, H⟩ := H
   replace H : (spec_l1Cur_order.l0 k t497 t504 ([] : List Int) ([] : List Int) 0 s0_0 t505 t506 t497 y500) = some (r1, r2, r3, r4) := H
   have A6 := Aside0.mk A60
   clear A60
   have H' := Aside0.mk H
   clear H
   go_enter Tryd.func154, Tryd.ntmps154
   go_wp2_with (first | ((with_reducible refine gate_dst (N := 4) rfl ?_); refine box_event ?hg (N := 4) ?hd (cs := #[.int .i64 0, .slice none 0 0]) (t := 26) ?hr ?_; (case hd => rfl); (case hg => rfl); (case hr => first | (go_simp; done) | (go_simp; rfl)); intro gb496 hg w7 hbox hb; have n0_ := Aside0.mk (IsS72.below (by repeat (first | (with_reducible first | exact HI0.out | apply IsS72.alloc | apply IsS72.drewN | apply IsS72.drew | apply IsS72.set_1 | apply IsS72.set_2) | exact HI0.out)) hb); have n1_ := Aside0.mk (KeepBut.trans (by repeat (first | (with_reducible first | exact HK.out | apply KeepBut.set_ | apply keep_drewN | apply keep_drew | apply keep_alloc) | exact HK.out)) (KeepBut.of_below hb g none) (.inl rfl)); have n2_ := Aside0.mk (below_step (by repeat (first | (with_reducible first | exact HB.out | apply below_alloc | apply pw_below_drewN | apply below_drew1 | refine below_set ?_ (IsS72.ge HI0.out)) | exact HB.out)) hb); have n3_ := Aside0.mk (hbox); have n4_ := Aside0.mk ((by rw [hg]; exact (keep_size (w := w) (g := g) (row := none) (by repeat (first | (with_reducible first | exact HK.out | apply KeepBut.set_ | apply keep_drewN | apply keep_drew | apply keep_alloc) | exact HK.out))) : w.heap.size ≤ gb496)); have n5_ := Aside0.mk ((Nat.le_trans HW0.out (by rw [hg]; exact (keep_size (w := w) (g := g) (row := none) (by repeat (first | (with_reducible first | exact HK.out | apply KeepBut.set_ | apply keep_drewN | apply keep_drew | apply keep_alloc) | exact HK.out))) : w.heap.size ≤ gb496) : w0.heap.size ≤ gb496)); have n6_ := Aside0.mk ((by rw [hg]; exact Nat.ne_of_lt (IsS72.lt (show IsS72 w0 _ g s0_0 s0_1 s0_2 from by repeat (first | (with_reducible first | exact HI0.out | apply IsS72.alloc | apply IsS72.drewN | apply IsS72.drew | apply IsS72.set_1 | apply IsS72.set_2) | exact HI0.out))) : g ≠ gb496)); have n7_ := Aside0.mk ((by rw [hg]; exact Nat.ne_of_gt (IsS72.lt (show IsS72 w0 _ g s0_0 s0_1 s0_2 from by repeat (first | (with_reducible first | exact HI0.out | apply IsS72.alloc | apply IsS72.drewN | apply IsS72.drew | apply IsS72.set_1 | apply IsS72.set_2) | exact HI0.out))) : gb496 ≠ g)); clear HI0; clear HK; clear HB; have HI0 := n0_; have HK := n1_; have HB := n2_; have BK496 := n3_; have GW496 := n4_; have GE496 := n5_; have NB0_496 := n6_; have NB496_0 := n7_; clear n0_ n1_ n2_ n3_ n4_ n5_ n6_ n7_; clear hb hbox hg) | ((with_reducible refine gate_callee (f := 90) rfl ?_); refine goesL_ (some 19) rfl rfl Tryd.func90 (by kernel_rfl) rfl #[.pointer (some ⟨g, 0, none⟩), .int .i64 (wrap64 (a1 + 1))] rfl (by (try simp only [List.map_toArray, List.map_cons, List.map_nil]); first | done | rfl | (simp only [List.length_drop, List.length_take]; rfl)) ?_; (with_reducible refine (spec_l1Cur_pick.calls g s0_0 s0_1 s0_2 (wrap64 (a1 + 1)) t497 t498 t499 w0 _ ?side1 ?side2 A3.out).mono ?_); (case side1 => repeat (first | (with_reducible first | exact HI0.out | apply IsS72.alloc | apply IsS72.drewN | apply IsS72.drew | apply IsS72.set_1 | apply IsS72.set_2 | refine IsS72.far ?_ NB0_496.out _) | exact HI0.out)); (case side2 => repeat (first | (with_reducible first | exact HB.out | apply below_alloc | apply pw_below_drewN | apply below_drew1 | refine below_set ?_ (IsS72.ge HI0.out) | refine below_set ?_ GE496.out) | exact HB.out)); rintro e w8 ⟨rfl, hi, hb, hk⟩; refine ⟨_, rfl, ?_⟩; have n0_ := Aside0.mk (KeepBut.blk hk (g' := gb496) (o := .cells #[.int .i64 0, .slice none 0 0] 26 (0, 0)) (by (with_reducible repeat (first | refine blk_drewN ?_ _ | refine blk_drew ?_ | refine blk_alloc ?_ _)); exact BK496.out) NB496_0.out (by simp)); have n1_ := Aside0.mk (KeepBut.trans (by repeat (first | (with_reducible first | exact HK.out | apply KeepBut.set_ | apply keep_drewN | apply keep_drew | apply keep_alloc | refine keep_far ?_ GW496.out _) | exact HK.out)) hk (.inl rfl)); have n2_ := Aside0.mk (hb); have n3_ := Aside0.mk (hi); clear BK496; clear HK; clear HB; clear HI0; have BK496 := n0_; have HK := n1_; have HB := n2_; have HI0 := n3_; clear n0_ n1_ n2_ n3_; (try clear hb); (try clear hb2); (try clear hk); (try clear hi)) | ((with_reducible refine gate_dst (N := 22) rfl ?_); refine Kd.R_make (Kd.int .i64) _ 3 rfl (N := 22) rfl 22 _ _ rfl t497 rfl rfl Tryd.underlying22 (.int .i64 0) 8 info3 rfl (by decide) (by omega) 0 (ok := fun _ => True) (okp := fun _ => True) rfl (fun _ hk => hk) trivial (of_decide_eq_true (by first | (with_reducible assumption) | assumption)) (Nat.le_trans (Nat.mul_le_mul_right _ (of_decide_eq_true (by first | (with_reducible assumption) | assumption) : t497.toNat ≤ 35184372088832)) (by omega)) (Below.refl _ _) (Nat.le_refl _) ?_; intro v501 w9 ho10 hb hg_ hnew_; clear hg_ hnew_; (first | rw [← Ny500.out] at ho10 | (simp only [Int.reduceToNat] at ho10; rw [← Ny500.out] at ho10)); have n0_ := Aside0.mk (Kd.R_lower ho10 (keep_size (w := w) (g := g) (row := none) (by repeat (first | (with_reducible first | exact HK.out | apply KeepBut.set_ | apply keep_drewN | apply keep_drew | apply keep_alloc | refine keep_far ?_ GW496.out _) | exact HK.out)))); have n1_ := Aside0.mk (IsS72.below (by repeat (first | (with_reducible first | exact HI0.out | apply IsS72.alloc | apply IsS72.drewN | apply IsS72.drew | apply IsS72.set_1 | apply IsS72.set_2 | refine IsS72.far ?_ NB0_496.out _) | exact HI0.out)) hb); have n2_ := Aside0.mk (blk_below (g := gb496) (o := .cells #[.int .i64 0, .slice none 0 0] 26 (0, 0)) (by (with_reducible repeat (first | refine blk_drewN ?_ _ | refine blk_drew ?_ | refine blk_alloc ?_ _)); exact BK496.out) hb); have n3_ := Aside0.mk (KeepBut.trans (by repeat (first | (with_reducible first | exact HK.out | apply KeepBut.set_ | apply keep_drewN | apply keep_drew | apply keep_alloc | refine keep_far ?_ GW496.out _) | exact HK.out)) (KeepBut.of_below hb g none) (.inl rfl)); have n4_ := Aside0.mk (below_step (by repeat (first | (with_reducible first | exact HB.out | apply below_alloc | apply pw_below_drewN | apply below_drew1 | refine below_set ?_ (IsS72.ge HI0.out) | refine below_set ?_ GE496.out) | exact HB.out)) hb); clear HI0; clear BK496; clear HK; clear HB; have HO502 := n0_; have HI0 := n1_; have BK496 := n2_; have HK := n3_; have HB := n4_; clear n0_ n1_ n2_ n3_ n4_; clear hb ho10; obtain ⟨Ao11, co11, eo11⟩ := Kd.R_slice HO502.out; subst eo11) | ((with_reducible refine gate_dst (N := 6) rfl ?_); refine box_event ?hg (N := 6) ?hd (cs := #[.int .i64 0, .slice none 0 0]) (t := 26) ?hr ?_; (case hd => rfl); (case hg => rfl); (case hr => first | (go_simp; done) | (go_simp; rfl)); intro gb503 hg w12 hbox hb; have n0_ := Aside0.mk (Kd.R_below (by (with_reducible repeat (first | apply Kd.R_alloc | apply Kd.R_drewN | apply Kd.R_drew)); exact HO502.out) hb); have n1_ := Aside0.mk (IsS72.below (by repeat (first | (with_reducible first | exact HI0.out | apply IsS72.alloc | apply IsS72.drewN | apply IsS72.drew | apply IsS72.set_1 | apply IsS72.set_2 | refine IsS72.far ?_ NB0_496.out _) | exact HI0.out)) hb); have n2_ := Aside0.mk (blk_below (g := gb496) (o := .cells #[.int .i64 0, .slice none 0 0] 26 (0, 0)) (by (with_reducible repeat (first | refine blk_drewN ?_ _ | refine blk_drew ?_ | refine blk_alloc ?_ _)); exact BK496.out) hb); have n3_ := Aside0.mk (KeepBut.trans (by repeat (first | (with_reducible first | exact HK.out | apply KeepBut.set_ | apply keep_drewN | apply keep_drew | apply keep_alloc | refine keep_far ?_ GW496.out _) | exact HK.out)) (KeepBut.of_below hb g none) (.inl rfl)); have n4_ := Aside0.mk (below_step (by repeat (first | (with_reducible first | exact HB.out | apply below_alloc | apply pw_below_drewN | apply below_drew1 | refine below_set ?_ (IsS72.ge HI0.out) | refine below_set ?_ GE496.out) | exact HB.out)) hb); have n5_ := Aside0.mk (hbox); have n6_ := Aside0.mk ((by rw [hg]; exact (keep_size (w := w) (g := g) (row := none) (by repeat (first | (with_reducible first | exact HK.out | apply KeepBut.set_ | apply keep_drewN | apply keep_drew | apply keep_alloc | refine keep_far ?_ GW496.out _) | exact HK.out))) : w.heap.size ≤ gb503)); have n7_ := Aside0.mk ((Nat.le_trans HW0.out (by rw [hg]; exact (keep_size (w := w) (g := g) (row := none) (by repeat (first | (with_reducible first | exact HK.out | apply KeepBut.set_ | apply keep_drewN | apply keep_drew | apply keep_alloc | refine keep_far ?_ GW496.out _) | exact HK.out))) : w.heap.size ≤ gb503) : w0.heap.size ≤ gb503)); have n8_ := Aside0.mk ((by rw [hg]; exact Nat.ne_of_lt (blk_lt (g := gb496) (o := .cells #[.int .i64 0, .slice none 0 0] 26 (0, 0)) (by (with_reducible repeat (first | refine blk_drewN ?_ _ | refine blk_drew ?_ | refine blk_alloc ?_ _)); exact BK496.out)) : gb496 ≠ gb503)); have n9_ := Aside0.mk ((by rw [hg]; exact Nat.ne_of_gt (blk_lt (g := gb496) (o := .cells #[.int .i64 0, .slice none 0 0] 26 (0, 0)) (by (with_reducible repeat (first | refine blk_drewN ?_ _ | refine blk_drew ?_ | refine blk_alloc ?_ _)); exact BK496.out)) : gb503 ≠ gb496)); have n10_ := Aside0.mk ((by rw [hg]; exact Nat.ne_of_lt (IsS72.lt (show IsS72 w0 _ g s0_0 t498 t499 from by repeat (first | (with_reducible first | exact HI0.out | apply IsS72.alloc | apply IsS72.drewN | apply IsS72.drew | apply IsS72.set_1 | apply IsS72.set_2 | refine IsS72.far ?_ NB0_496.out _) | exact HI0.out))) : g ≠ gb503)); have n11_ := Aside0.mk ((by rw [hg]; exact Nat.ne_of_gt (IsS72.lt (show IsS72 w0 _ g s0_0 t498 t499 from by repeat (first | (with_reducible first | exact HI0.out | apply IsS72.alloc | apply IsS72.drewN | apply IsS72.drew | apply IsS72.set_1 | apply IsS72.set_2 | refine IsS72.far ?_ NB0_496.out _) | exact HI0.out))) : gb503 ≠ g)); clear HO502; clear HI0; clear BK496; clear HK; clear HB; have HO502 := n0_; have HI0 := n1_; have BK496 := n2_; have HK := n3_; have HB := n4_; have BK503 := n5_; have GW503 := n6_; have GE503 := n7_; have NB496_503 := n8_; have NB503_496 := n9_; have NB0_503 := n10_; have NB503_0 := n11_; clear n0_ n1_ n2_ n3_ n4_ n5_ n6_ n7_ n8_ n9_ n10_ n11_; clear hb hbox hg; have hnb13 := NB503_496.out; have hnc13 := NB496_503.out; have hnb14 := NB503_0.out; have hnc14 := NB0_503.out; have hcz15_0 : w12.cell? ⟨gb503, 0, none⟩ = some (.int .i64 0) := (blk_cell BK503.out 0).trans rfl; have hcz15_1 : w12.cell? ⟨gb503, 1, none⟩ = some (.slice none 0 0) := (blk_cell BK503.out 1).trans rfl; have hfz15_0 := blk_frozen BK503.out 0; have hfz15_1 := blk_frozen BK503.out 1) | ((with_reducible refine gate_callee (f := 90) rfl ?_); refine goesL_ (some 25) rfl rfl Tryd.func90 (by kernel_rfl) rfl #[.pointer (some ⟨g, 0, none⟩), .int .i64 3] rfl (by (try simp only [List.map_toArray, List.map_cons, List.map_nil]); first | done | rfl | (simp only [List.length_drop, List.length_take]; rfl)) ?_; (with_reducible refine (spec_l1Cur_pick.calls g s0_0 t498 t499 3 t504 t505 t506 w0 _ ?side1 ?side2 A6.out).mono ?_); (case side1 => repeat (first | (with_reducible first | exact HI0.out | apply IsS72.alloc | apply IsS72.drewN | apply IsS72.drew | apply IsS72.set_1 | apply IsS72.set_2 | refine IsS72.far ?_ NB0_496.out _ | refine IsS72.far ?_ NB0_503.out _) | exact HI0.out)); (case side2 => repeat (first | (with_reducible first | exact HB.out | apply below_alloc | apply pw_below_drewN | apply below_drew1 | refine below_set ?_ (IsS72.ge HI0.out) | refine below_set ?_ GE496.out | refine below_set ?_ GE503.out) | exact HB.out)); rintro e w16 ⟨rfl, hi, hb, hk⟩; refine ⟨_, rfl, ?_⟩; have n0_ := Aside0.mk (KeepBut.blk hk (g' := gb496) (o := .cells #[.int .i64 0, .slice none 0 0] 26 (0, 0)) (by (with_reducible repeat (first | refine blk_drewN ?_ _ | refine blk_drew ?_ | refine blk_alloc ?_ _)); refine blk_far ?_ NB496_503.out _; (with_reducible repeat (first | refine blk_drewN ?_ _ | refine blk_drew ?_ | refine blk_alloc ?_ _)); refine blk_far ?_ NB496_503.out _; (with_reducible repeat (first | refine blk_drewN ?_ _ | refine blk_drew ?_ | refine blk_alloc ?_ _)); exact BK496.out) NB496_0.out (by simp)); have n1_ := Aside0.mk (Kd.R_mono (Kd.R_keep (IsS72.apart (show IsS72 w0 _ g s0_0 t498 t499 from by repeat (first | (with_reducible first | exact HI0.out | apply IsS72.alloc | apply IsS72.drewN | apply IsS72.drew | apply IsS72.set_1 | apply IsS72.set_2 | refine IsS72.far ?_ NB0_496.out _ | refine IsS72.far ?_ NB0_503.out _) | exact HI0.out)) (by (with_reducible repeat (first | apply Kd.R_alloc | apply Kd.R_drewN | apply Kd.R_drew)); exact (Kd.R_mono (Kd.R_far (p := ⟨gb503, 1, none⟩) (Kd.R_far (p := ⟨gb503, 0, none⟩) (Kd.R_types HO502.out BK503.out (by decide)) (fun _ hk => hk.2) (.int .i64 t497)) (fun _ hk => hk.2) (.slice Ao11 y500.length co11)) (fun _ h_ => h_.1))) (by decide)) hk (fun _ h => h.2)) (fun _ h => h.1)); have n2_ := Aside0.mk (KeepBut.blk hk (g' := gb503) (o := .cells #[.int .i64 t497, .slice Ao11 y500.length co11] 26 (0, 0)) (by (with_reducible repeat (first | refine blk_drewN ?_ _ | refine blk_drew ?_ | refine blk_alloc ?_ _)); refine blk_put (cs := #[.int .i64 t497, .slice none 0 0]) ?_ 1 _ rfl; (with_reducible repeat (first | refine blk_drewN ?_ _ | refine blk_drew ?_ | refine blk_alloc ?_ _)); refine blk_put (cs := #[.int .i64 0, .slice none 0 0]) ?_ 0 _ rfl; (with_reducible repeat (first | refine blk_drewN ?_ _ | refine blk_drew ?_ | refine blk_alloc ?_ _)); exact BK503.out) NB503_0.out (by simp)); have n3_ := Aside0.mk (KeepBut.trans (by repeat (first | (with_reducible first | exact HK.out | apply KeepBut.set_ | apply keep_drewN | apply keep_drew | apply keep_alloc | refine keep_far ?_ GW496.out _ | refine keep_far ?_ GW503.out _) | exact HK.out)) hk (.inl rfl)); have n4_ := Aside0.mk (hb); have n5_ := Aside0.mk (hi); clear BK496; clear HO502; clear BK503; clear HK; clear HB; clear HI0; have BK496 := n0_; have HO502 := n1_; have BK503 := n2_; have HK := n3_; have HB := n4_; have HI0 := n5_; clear n0_ n1_ n2_ n3_ n4_ n5_; (try clear hb); (try clear hb2); (try clear hk); (try clear hi)))
   go_loopg [8, 9, 10] k (fun kq v8 v9 v10 w' => ∃ (x8_1 : List Int) (x9_1 : List Int) (x10_1 : Int) (x1001_1 : Int) (x1002_1 : Int), v10 = .int .i64 x10_1 ∧ Aside0 (spec_l1Cur_order.l0 kq t497 t504 x8_1 x9_1 x10_1 s0_0 x1001_1 x1002_1 t497 y500 = some (r1, r2, r3, r4)) ∧ Aside0 (kq ≤ k) ∧ Aside0 (Kd.R (Kd.int .i64) 3 w' w.heap.size (fun k_ => some k_ ≠ (v9 : Value).ownBlock ∧ some k_ ≠ ((.slice Ao11 y500.length co11) : Value).ownBlock) v8 x8_1) ∧ Aside0 (Kd.R (Kd.int .i64) 3 w' w.heap.size (fun k_ => some k_ ≠ (v8 : Value).ownBlock ∧ some k_ ≠ ((.slice Ao11 y500.length co11) : Value).ownBlock) v9 x9_1) ∧ Aside0 (Kd.R (Kd.int .i64) 3 w' w.heap.size (fun k_ => some k_ ≠ (v8 : Value).ownBlock ∧ some k_ ≠ (v9 : Value).ownBlock) (.slice Ao11 y500.length co11) y500) ∧ Aside0 (w'.heap[gb496]? = some (.cells #[.int .i64 0, (.slice none 0 0)] 26 (0, 0))) ∧ Aside0 (w'.heap[gb503]? = some (.cells #[.int .i64 t497, (.slice Ao11 y500.length co11)] 26 (0, 0))) ∧ Aside0 (IsS72 w0 w' g s0_0 x1001_1 x1002_1) ∧ Aside0 (KeepBut w w' g none) ∧ Aside0 (Below w0.heap.size w0 w'))
   case atStart => exact ⟨(([] : List Int)), (([] : List Int)), (0), (t505), (t506), (by first | rfl | (simp; done) | (simp [*]; done)), H', ⟨Nat.le_refl _⟩, ⟨by first | exact Kd.R_nil _ _ _ _ _ | exact Kd.N_nil _ _ _ _ _ | exact Kd.V_nil _ _ _ _ _ | exact Kd.Q_nil _ _ _ _ _ | exact Kd.S_nil _ _ _ _ _⟩, ⟨by first | exact Kd.R_nil _ _ _ _ _ | exact Kd.N_nil _ _ _ _ _ | exact Kd.V_nil _ _ _ _ _ | exact Kd.Q_nil _ _ _ _ _ | exact Kd.S_nil _ _ _ _ _⟩, ⟨by (with_reducible repeat (first | apply Kd.R_alloc | apply Kd.R_drewN | apply Kd.R_drew)); exact Kd.R_mono HO502.out (fun _ hk => ⟨(by simp [Value.ownBlock]), (by simp [Value.ownBlock])⟩)⟩, ⟨by (with_reducible repeat (first | refine blk_drewN ?_ _ | refine blk_drew ?_ | refine blk_alloc ?_ _)); exact BK496.out⟩, ⟨by (with_reducible repeat (first | refine blk_drewN ?_ _ | refine blk_drew ?_ | refine blk_alloc ?_ _)); exact BK503.out⟩, ⟨by repeat (first | (with_reducible first | exact HI0.out | apply IsS72.alloc | apply IsS72.drewN | apply IsS72.drew | apply IsS72.set_1 | apply IsS72.set_2 | refine IsS72.far ?_ NB0_496.out _ | refine IsS72.far ?_ NB0_503.out _) | exact HI0.out)⟩, ⟨by repeat (first | (with_reducible first | exact HK.out | apply KeepBut.set_ | apply keep_drewN | apply keep_drew | apply keep_alloc | refine keep_far ?_ GW496.out _ | refine keep_far ?_ GW503.out _) | exact HK.out)⟩, ⟨by repeat (first | (with_reducible first | exact HB.out | apply below_alloc | apply pw_below_drewN | apply below_drew1 | refine below_set ?_ (IsS72.ge HI0.out) | refine below_set ?_ GE496.out | refine below_set ?_ GE503.out) | exact HB.out)⟩⟩
   case round =>
    clear H'
    try clear c1
    try clear p2
    try clear c4
    try clear c4b0
    try clear c4b1
    try clear c5
    try clear c5b0
    try clear c5b1
    try clear p6
    try clear c9
    try clear c13
    try clear c14
    try clear c15
    try clear hcz15_0
    try clear hcz15_1
    try clear hfz15_0
    try clear hfz15_1
    obtain ⟨x8_1, x9_1, x10_1, x1001_1, x1002_1, rfl, HA, HK1, HO_8, HO_9, HO_504001, BK496, BK503, HI0, HK, HB⟩ := hrel
    cases gk with
    | zero => exact absurd HA.out (by simp [spec_l1Cur_order.l0])
    | succ k1 =>
     have H := HA.out
     clear HA
     simp only [spec_l1Cur_order.l0] at H
     by_cases c17 : x10_1 < t497
     ·rw [if_pos c17] at H
      have c17b0 : decide (x10_1 < t497) = true := decide_eq_true c17
      clear c17
      replace H := Option.bind_eq_some_iff.mp H
      obtain ⟨⟨t507, t508, t509⟩, A180, H⟩ := H
      replace H : (if x8_1.length < 17592186044416 then ((some (x8_1 ++ [t507] : List Int)).bind fun y510 => (if t504 = 1 then ((spec_l1Cur_pick.f s0_0 t508 t509 4).bind fun bt513 => (if x9_1.length < 17592186044416 then (spec_l1Cur_order.l0 k1 t497 t504 y510 (x9_1 ++ [wrap64 (t507 + bt513.1)]) (wrap64 (x10_1 + 1)) s0_0 bt513.2.1 bt513.2.2 t497 y500) else (none))) else (if x9_1.length < 17592186044416 then (spec_l1Cur_order.l0 k1 t497 t504 y510 (x9_1 ++ [wrap64 (t507 + 2)]) (wrap64 (x10_1 + 1)) s0_0 t508 t509 t497 y500) else (none)))) else (none)) = some (r1, r2, r3, r4) := H
      have A18 := Aside0.mk A180
      clear A180
      by_cases c19 : x8_1.length < 17592186044416
      ·rw [if_pos c19] at H
       have LMc19 := Aside0.mk c19
       clear c19
       obtain ⟨y510, hy510⟩ : ∃ y_ : List Int, y_ = (x8_1 ++ [t507]) := ⟨_, rfl⟩
       replace H : (if t504 = 1 then ((spec_l1Cur_pick.f s0_0 t508 t509 4).bind fun bt513 => (if x9_1.length < 17592186044416 then (spec_l1Cur_order.l0 k1 t497 t504 y510 (x9_1 ++ [wrap64 (t507 + bt513.1)]) (wrap64 (x10_1 + 1)) s0_0 bt513.2.1 bt513.2.2 t497 y500) else (none))) else (if x9_1.length < 17592186044416 then (spec_l1Cur_order.l0 k1 t497 t504 y510 (x9_1 ++ [wrap64 (t507 + 2)]) (wrap64 (x10_1 + 1)) s0_0 t508 t509 t497 y500) else (none))) = some (r1, r2, r3, r4) := by first | (rw [hy510]; with_reducible exact H) | (have H2_ := (Option.bind_some _ _).symm.trans H; rw [hy510]; with_reducible exact H2_) | (have H2_ := (Option.bind_some _ _).symm.trans H; with_reducible exact H2_) | with_reducible exact H | (rw [hy510]; exact H) | exact H
       have Ny510 := Aside0.mk hy510
       clear hy510
       by_cases c20 : t504 = 1
       ·rw [if_pos c20] at H
        have c20b0 : (t504 == 1) = true := beq_iff_eq.mpr c20
        have c20b1 : (t504 != 1) = false := bne_eq_false_iff_eq.mpr c20
        clear c20
        replace H := Option.bind_eq_some_iff.mp H
        obtain ⟨⟨t513, t514, t515⟩, A210, H⟩ := H
        replace H : (if x9_1.length < 17592186044416 then (spec_l1Cur_order.l0 k1 t497 t504 y510 (x9_1 ++ [wrap64 (t507 + t513)]) (wrap64 (x10_1 + 1)) s0_0 t514 t515 t497 y500) else (none)) = some (r1, r2, r3, r4) := H
        have A21 := Aside0.mk A210
        clear A210
        by_cases c22 : x9_1.length < 17592186044416
        ·rw [if_pos c22] at H
         have LMc22 := Aside0.mk c22
         clear c22
         obtain ⟨y516, hy516⟩ : ∃ y_ : List Int, y_ = (x9_1 ++ [wrap64 (t507 + t513)]) := ⟨_, rfl⟩
         replace H : (spec_l1Cur_order.l0 k1 t497 t504 y510 y516 (wrap64 (x10_1 + 1)) s0_0 t514 t515 t497 y500) = some (r1, r2, r3, r4) := by first | (rw [hy516]; with_reducible exact H) | (have H2_ := (Option.bind_some _ _).symm.trans H; rw [hy516]; with_reducible exact H2_) | (have H2_ := (Option.bind_some _ _).symm.trans H; with_reducible exact H2_) | with_reducible exact H | (rw [hy516]; exact H) | exact H
         have Ny516 := Aside0.mk hy516
         clear hy516
         have H' := Aside0.mk H
         clear H
         go_wp2_with (first | ((with_reducible refine gate_callee (f := 90) rfl ?_); refine goesL_ (some 32) rfl rfl Tryd.func90 (by kernel_rfl) rfl #[.pointer (some ⟨g, 0, none⟩), .int .i64 8] rfl (by (try simp only [List.map_toArray, List.map_cons, List.map_nil]); first | done | rfl | (simp only [List.length_drop, List.length_take]; rfl)) ?_; (with_reducible refine (spec_l1Cur_pick.calls g s0_0 x1001_1 x1002_1 8 t507 t508 t509 w0 _ ?side1 ?side2 A18.out).mono ?_); (case side1 => repeat (first | (with_reducible first | exact HI0.out | apply IsS72.alloc | apply IsS72.drewN | apply IsS72.drew | apply IsS72.set_1 | apply IsS72.set_2 | refine IsS72.far ?_ NB0_496.out _ | refine IsS72.far ?_ NB0_503.out _) | exact HI0.out)); (case side2 => repeat (first | (with_reducible first | exact HB.out | apply below_alloc | apply pw_below_drewN | apply below_drew1 | refine below_set ?_ (IsS72.ge HI0.out) | refine below_set ?_ GE496.out | refine below_set ?_ GE503.out) | exact HB.out)); rintro e w23 ⟨rfl, hi, hb, hk⟩; refine ⟨_, rfl, ?_⟩; have n0_ := Aside0.mk (Kd.R_mono (Kd.R_keep (IsS72.apart (show IsS72 w0 _ g s0_0 x1001_1 x1002_1 from by repeat (first | (with_reducible first | exact HI0.out | apply IsS72.alloc | apply IsS72.drewN | apply IsS72.drew | apply IsS72.set_1 | apply IsS72.set_2 | refine IsS72.far ?_ NB0_496.out _ | refine IsS72.far ?_ NB0_503.out _) | exact HI0.out)) (by (with_reducible repeat (first | apply Kd.R_alloc | apply Kd.R_drewN | apply Kd.R_drew)); exact HO_8.out) (by decide)) hk (fun _ h => h.2)) (fun _ h => h.1)); have n1_ := Aside0.mk (Kd.R_mono (Kd.R_keep (IsS72.apart (show IsS72 w0 _ g s0_0 x1001_1 x1002_1 from by repeat (first | (with_reducible first | exact HI0.out | apply IsS72.alloc | apply IsS72.drewN | apply IsS72.drew | apply IsS72.set_1 | apply IsS72.set_2 | refine IsS72.far ?_ NB0_496.out _ | refine IsS72.far ?_ NB0_503.out _) | exact HI0.out)) (by (with_reducible repeat (first | apply Kd.R_alloc | apply Kd.R_drewN | apply Kd.R_drew)); exact HO_9.out) (by decide)) hk (fun _ h => h.2)) (fun _ h => h.1)); have n2_ := Aside0.mk (Kd.R_mono (Kd.R_keep (IsS72.apart (show IsS72 w0 _ g s0_0 x1001_1 x1002_1 from by repeat (first | (with_reducible first | exact HI0.out | apply IsS72.alloc | apply IsS72.drewN | apply IsS72.drew | apply IsS72.set_1 | apply IsS72.set_2 | refine IsS72.far ?_ NB0_496.out _ | refine IsS72.far ?_ NB0_503.out _) | exact HI0.out)) (by (with_reducible repeat (first | apply Kd.R_alloc | apply Kd.R_drewN | apply Kd.R_drew)); exact HO_504001.out) (by decide)) hk (fun _ h => h.2)) (fun _ h => h.1)); have n3_ := Aside0.mk (KeepBut.blk hk (g' := gb496) (o := .cells #[.int .i64 0, .slice none 0 0] 26 (0, 0)) (by (with_reducible repeat (first | refine blk_drewN ?_ _ | refine blk_drew ?_ | refine blk_alloc ?_ _)); exact BK496.out) NB496_0.out (by simp)); have n4_ := Aside0.mk (KeepBut.blk hk (g' := gb503) (o := .cells #[.int .i64 t497, .slice Ao11 y500.length co11] 26 (0, 0)) (by (with_reducible repeat (first | refine blk_drewN ?_ _ | refine blk_drew ?_ | refine blk_alloc ?_ _)); exact BK503.out) NB503_0.out (by simp)); have n5_ := Aside0.mk (KeepBut.trans (by repeat (first | (with_reducible first | exact HK.out | apply KeepBut.set_ | apply keep_drewN | apply keep_drew | apply keep_alloc | refine keep_far ?_ GW496.out _ | refine keep_far ?_ GW503.out _) | exact HK.out)) hk (.inl rfl)); have n6_ := Aside0.mk (hb); have n7_ := Aside0.mk (hi); clear HO_8; clear HO_9; clear HO_504001; clear BK496; clear BK503; clear HK; clear HB; clear HI0; have HO_8 := n0_; have HO_9 := n1_; have HO_504001 := n2_; have BK496 := n3_; have BK503 := n4_; have HK := n5_; have HB := n6_; have HI0 := n7_; clear n0_ n1_ n2_ n3_ n4_ n5_ n6_ n7_; (try clear hb); (try clear hb2); (try clear hk); (try clear hi)) | ((with_reducible refine gate_builtin (b := .append) (xs := #[.tmp 33, .tmp 35]) rfl ?_); at_builtin; refine Kd.R_append (Kd.int .i64) w.heap.size rfl (.tmp 33) (.tmp 35) 22 3 (.int .i64 0) 8 rfl Tryd.underlying22 info3 rfl (by decide) (by omega) u8 x8_1 t507 [.int .i64 t507] (fun k_ => some k_ ≠ (u9 : Value).ownBlock ∧ some k_ ≠ (.slice Ao11 y500.length co11 : Value).ownBlock) (fun _ => False) rfl rfl ?aP (fun _ hk => hk.elim) ?aF ?aO (Below.refl _ _) ?aS ?aL ?_; (case aP => exact rfl); (case aF => exact (fun k_ hk => ⟨Kd.fresh' (Kd.R_lt (by (with_reducible repeat (first | apply Kd.R_alloc | apply Kd.R_drewN | apply Kd.R_drew)); exact HO_9.out)) k_ hk, Kd.fresh' (Kd.R_lt (by (with_reducible repeat (first | apply Kd.R_alloc | apply Kd.R_drewN | apply Kd.R_drew)); exact HO_504001.out)) k_ hk⟩)); (case aO => exact (by (with_reducible repeat (first | apply Kd.R_alloc | apply Kd.R_drewN | apply Kd.R_drew)); exact HO_8.out)); (case aS => exact (keep_size (w := w) (g := g) (row := none) (by repeat (first | (with_reducible first | exact HK.out | apply KeepBut.set_ | apply keep_drewN | apply keep_drew | apply keep_alloc | refine keep_far ?_ GW496.out _ | refine keep_far ?_ GW503.out _) | exact HK.out)))); (case aL => have := LMc19.out; omega); intro v511 w24 ho hb hg hat; rw [← Ny510.out] at ho; have n0_ := Aside0.mk (Kd.R_after (ok := (fun k_ => some k_ ≠ (.slice Ao11 y500.length co11 : Value).ownBlock)) (by (with_reducible repeat (first | apply Kd.R_alloc | apply Kd.R_drewN | apply Kd.R_drew)); exact Kd.R_mono HO_9.out (fun _ hk => ⟨hk.2, hk.1⟩)) hg hat); have n1_ := Aside0.mk (Kd.R_after (ok := (fun k_ => some k_ ≠ (u9 : Value).ownBlock)) (by (with_reducible repeat (first | apply Kd.R_alloc | apply Kd.R_drewN | apply Kd.R_drew)); exact Kd.R_mono HO_504001.out (fun _ hk => ⟨hk.2, hk.1⟩)) hg hat); have n2_ := Aside0.mk (blk_grown (g := gb496) (o := .cells #[.int .i64 0, .slice none 0 0] 26 (0, 0)) (by (with_reducible repeat (first | refine blk_drewN ?_ _ | refine blk_drew ?_ | refine blk_alloc ?_ _)); exact BK496.out) hg (Kd.R_ne HO_8.out BK496.out (by decide))); have n3_ := Aside0.mk (blk_grown (g := gb503) (o := .cells #[.int .i64 t497, .slice Ao11 y500.length co11] 26 (0, 0)) (by (with_reducible repeat (first | refine blk_drewN ?_ _ | refine blk_drew ?_ | refine blk_alloc ?_ _)); exact BK503.out) hg (Kd.R_ne HO_8.out BK503.out (by decide))); have n4_ := Aside0.mk (IsS72.grown (by repeat (first | (with_reducible first | exact HI0.out | apply IsS72.alloc | apply IsS72.drewN | apply IsS72.drew | apply IsS72.set_1 | apply IsS72.set_2 | refine IsS72.far ?_ NB0_496.out _ | refine IsS72.far ?_ NB0_503.out _) | exact HI0.out)) hg (IsS72.own_ne HI0.out HO_8.out (by decide))); have n5_ := Aside0.mk (below_weaken (by repeat (first | (with_reducible first | exact HB.out | apply below_alloc | apply pw_below_drewN | apply below_drew1 | refine below_set ?_ (IsS72.ge HI0.out) | refine below_set ?_ GE496.out | refine below_set ?_ GE503.out) | exact HB.out)) HL.out hb); have n6_ := Aside0.mk (KeepBut.trans (by repeat (first | (with_reducible first | exact HK.out | apply KeepBut.set_ | apply keep_drewN | apply keep_drew | apply keep_alloc | refine keep_far ?_ GW496.out _ | refine keep_far ?_ GW503.out _) | exact HK.out)) (KeepBut.of_grown hg g) (Kd.R_base2 HO_8.out)); have n7_ := Aside0.mk (ho); clear HO_9; clear HO_504001; clear BK496; clear BK503; clear HI0; clear HB; clear HK; clear HO_8; have HO_9 := n0_; have HO_504001 := n1_; have BK496 := n2_; have BK503 := n3_; have HI0 := n4_; have HB := n5_; have HK := n6_; have HO512 := n7_; clear n0_ n1_ n2_ n3_ n4_ n5_ n6_ n7_; clear ho hb hg hat) | ((with_reducible refine gate_callee (f := 90) rfl ?_); refine goesL_ (some 42) rfl rfl Tryd.func90 (by kernel_rfl) rfl #[.pointer (some ⟨g, 0, none⟩), .int .i64 4] rfl (by (try simp only [List.map_toArray, List.map_cons, List.map_nil]); first | done | rfl | (simp only [List.length_drop, List.length_take]; rfl)) ?_; (with_reducible refine (spec_l1Cur_pick.calls g s0_0 t508 t509 4 t513 t514 t515 w0 _ ?side1 ?side2 A21.out).mono ?_); (case side1 => repeat (first | (with_reducible first | exact HI0.out | apply IsS72.alloc | apply IsS72.drewN | apply IsS72.drew | apply IsS72.set_1 | apply IsS72.set_2 | refine IsS72.far ?_ NB0_496.out _ | refine IsS72.far ?_ NB0_503.out _) | exact HI0.out)); (case side2 => repeat (first | (with_reducible first | exact HB.out | apply below_alloc | apply pw_below_drewN | apply below_drew1 | refine below_set ?_ (IsS72.ge HI0.out) | refine below_set ?_ GE496.out | refine below_set ?_ GE503.out) | exact HB.out)); rintro e w25 ⟨rfl, hi, hb, hk⟩; refine ⟨_, rfl, ?_⟩; have n0_ := Aside0.mk (Kd.R_mono (Kd.R_keep (IsS72.apart (show IsS72 w0 _ g s0_0 t508 t509 from by repeat (first | (with_reducible first | exact HI0.out | apply IsS72.alloc | apply IsS72.drewN | apply IsS72.drew | apply IsS72.set_1 | apply IsS72.set_2 | refine IsS72.far ?_ NB0_496.out _ | refine IsS72.far ?_ NB0_503.out _) | exact HI0.out)) (by (with_reducible repeat (first | apply Kd.R_alloc | apply Kd.R_drewN | apply Kd.R_drew)); exact HO_9.out) (by decide)) hk (fun _ h => h.2)) (fun _ h => h.1)); have n1_ := Aside0.mk (Kd.R_mono (Kd.R_keep (IsS72.apart (show IsS72 w0 _ g s0_0 t508 t509 from by repeat (first | (with_reducible first | exact HI0.out | apply IsS72.alloc | apply IsS72.drewN | apply IsS72.drew | apply IsS72.set_1 | apply IsS72.set_2 | refine IsS72.far ?_ NB0_496.out _ | refine IsS72.far ?_ NB0_503.out _) | exact HI0.out)) (by (with_reducible repeat (first | apply Kd.R_alloc | apply Kd.R_drewN | apply Kd.R_drew)); exact HO_504001.out) (by decide)) hk (fun _ h => h.2)) (fun _ h => h.1)); have n2_ := Aside0.mk (KeepBut.blk hk (g' := gb496) (o := .cells #[.int .i64 0, .slice none 0 0] 26 (0, 0)) (by (with_reducible repeat (first | refine blk_drewN ?_ _ | refine blk_drew ?_ | refine blk_alloc ?_ _)); exact BK496.out) NB496_0.out (by simp)); have n3_ := Aside0.mk (KeepBut.blk hk (g' := gb503) (o := .cells #[.int .i64 t497, .slice Ao11 y500.length co11] 26 (0, 0)) (by (with_reducible repeat (first | refine blk_drewN ?_ _ | refine blk_drew ?_ | refine blk_alloc ?_ _)); exact BK503.out) NB503_0.out (by simp)); have n4_ := Aside0.mk (Kd.R_mono (Kd.R_keep (IsS72.apart (show IsS72 w0 _ g s0_0 t508 t509 from by repeat (first | (with_reducible first | exact HI0.out | apply IsS72.alloc | apply IsS72.drewN | apply IsS72.drew | apply IsS72.set_1 | apply IsS72.set_2 | refine IsS72.far ?_ NB0_496.out _ | refine IsS72.far ?_ NB0_503.out _) | exact HI0.out)) (by (with_reducible repeat (first | apply Kd.R_alloc | apply Kd.R_drewN | apply Kd.R_drew)); exact HO512.out) (by decide)) hk (fun _ h => h.2)) (fun _ h => h.1)); have n5_ := Aside0.mk (KeepBut.trans (by repeat (first | (with_reducible first | exact HK.out | apply KeepBut.set_ | apply keep_drewN | apply keep_drew | apply keep_alloc | refine keep_far ?_ GW496.out _ | refine keep_far ?_ GW503.out _) | exact HK.out)) hk (.inl rfl)); have n6_ := Aside0.mk (hb); have n7_ := Aside0.mk (hi); clear HO_9; clear HO_504001; clear BK496; clear BK503; clear HO512; clear HK; clear HB; clear HI0; have HO_9 := n0_; have HO_504001 := n1_; have BK496 := n2_; have BK503 := n3_; have HO512 := n4_; have HK := n5_; have HB := n6_; have HI0 := n7_; clear n0_ n1_ n2_ n3_ n4_ n5_ n6_ n7_; (try clear hb); (try clear hb2); (try clear hk); (try clear hi)) | ((with_reducible refine gate_builtin (b := .append) (xs := #[.tmp 39, .tmp 44]) rfl ?_); at_builtin; refine Kd.R_append (Kd.int .i64) w.heap.size rfl (.tmp 39) (.tmp 44) 22 3 (.int .i64 0) 8 rfl Tryd.underlying22 info3 rfl (by decide) (by omega) u9 x9_1 (wrap64 (t507 + t513)) [.int .i64 (wrap64 (t507 + t513))] (fun k_ => some k_ ≠ (.slice Ao11 y500.length co11 : Value).ownBlock ∧ some k_ ≠ (v511 : Value).ownBlock) (fun _ => False) rfl rfl ?aP (fun _ hk => hk.elim) ?aF ?aO (Below.refl _ _) ?aS ?aL ?_; (case aP => exact rfl); (case aF => exact (fun k_ hk => ⟨Kd.fresh' (Kd.R_lt (by (with_reducible repeat (first | apply Kd.R_alloc | apply Kd.R_drewN | apply Kd.R_drew)); exact HO_504001.out)) k_ hk, Kd.fresh' (Kd.R_lt (by (with_reducible repeat (first | apply Kd.R_alloc | apply Kd.R_drewN | apply Kd.R_drew)); exact HO512.out)) k_ hk⟩)); (case aO => exact (by (with_reducible repeat (first | apply Kd.R_alloc | apply Kd.R_drewN | apply Kd.R_drew)); exact HO_9.out)); (case aS => exact (keep_size (w := w) (g := g) (row := none) (by repeat (first | (with_reducible first | exact HK.out | apply KeepBut.set_ | apply keep_drewN | apply keep_drew | apply keep_alloc | refine keep_far ?_ GW496.out _ | refine keep_far ?_ GW503.out _) | exact HK.out)))); (case aL => have := LMc22.out; omega); intro v517 w26 ho hb hg hat; rw [← Ny516.out] at ho; have n0_ := Aside0.mk (Kd.R_after (ok := (fun k_ => some k_ ≠ (v511 : Value).ownBlock)) (by (with_reducible repeat (first | apply Kd.R_alloc | apply Kd.R_drewN | apply Kd.R_drew)); exact Kd.R_mono HO_504001.out (fun _ hk => ⟨hk.2, hk.1⟩)) hg hat); have n1_ := Aside0.mk (blk_grown (g := gb496) (o := .cells #[.int .i64 0, .slice none 0 0] 26 (0, 0)) (by (with_reducible repeat (first | refine blk_drewN ?_ _ | refine blk_drew ?_ | refine blk_alloc ?_ _)); exact BK496.out) hg (Kd.R_ne HO_9.out BK496.out (by decide))); have n2_ := Aside0.mk (blk_grown (g := gb503) (o := .cells #[.int .i64 t497, .slice Ao11 y500.length co11] 26 (0, 0)) (by (with_reducible repeat (first | refine blk_drewN ?_ _ | refine blk_drew ?_ | refine blk_alloc ?_ _)); exact BK503.out) hg (Kd.R_ne HO_9.out BK503.out (by decide))); have n3_ := Aside0.mk (IsS72.grown (by repeat (first | (with_reducible first | exact HI0.out | apply IsS72.alloc | apply IsS72.drewN | apply IsS72.drew | apply IsS72.set_1 | apply IsS72.set_2 | refine IsS72.far ?_ NB0_496.out _ | refine IsS72.far ?_ NB0_503.out _) | exact HI0.out)) hg (IsS72.own_ne HI0.out HO_9.out (by decide))); have n4_ := Aside0.mk (Kd.R_after (ok := (fun k_ => some k_ ≠ (.slice Ao11 y500.length co11 : Value).ownBlock)) (by (with_reducible repeat (first | apply Kd.R_alloc | apply Kd.R_drewN | apply Kd.R_drew)); exact Kd.R_mono HO512.out (fun _ hk => ⟨hk.2, hk.1⟩)) hg hat); have n5_ := Aside0.mk (below_weaken (by repeat (first | (with_reducible first | exact HB.out | apply below_alloc | apply pw_below_drewN | apply below_drew1 | refine below_set ?_ (IsS72.ge HI0.out) | refine below_set ?_ GE496.out | refine below_set ?_ GE503.out) | exact HB.out)) HL.out hb); have n6_ := Aside0.mk (KeepBut.trans (by repeat (first | (with_reducible first | exact HK.out | apply KeepBut.set_ | apply keep_drewN | apply keep_drew | apply keep_alloc | refine keep_far ?_ GW496.out _ | refine keep_far ?_ GW503.out _) | exact HK.out)) (KeepBut.of_grown hg g) (Kd.R_base2 HO_9.out)); have n7_ := Aside0.mk (ho); clear HO_504001; clear BK496; clear BK503; clear HI0; clear HO512; clear HB; clear HK; clear HO_9; have HO_504001 := n0_; have BK496 := n1_; have BK503 := n2_; have HI0 := n3_; have HO512 := n4_; have HB := n5_; have HK := n6_; have HO518 := n7_; clear n0_ n1_ n2_ n3_ n4_ n5_ n6_ n7_; clear ho hb hg hat))
         go_roundg k1
         case measure => have := HK1.out; omega
         case rel => exact ⟨(y510), (y516), (wrap64 (x10_1 + 1)), (t514), (t515), (by first | rfl | (simp; done) | (simp [*]; done)), H', ⟨by have := HK1.out; omega⟩, ⟨by (with_reducible repeat (first | apply Kd.R_alloc | apply Kd.R_drewN | apply Kd.R_drew)); exact Kd.R_mono HO512.out (fun _ hk => ⟨hk.2, hk.1⟩)⟩, ⟨by (with_reducible repeat (first | apply Kd.R_alloc | apply Kd.R_drewN | apply Kd.R_drew)); exact Kd.R_mono HO518.out (fun _ hk => ⟨hk.2, hk.1⟩)⟩, ⟨by (with_reducible repeat (first | apply Kd.R_alloc | apply Kd.R_drewN | apply Kd.R_drew)); exact HO_504001.out⟩, ⟨by (with_reducible repeat (first | refine blk_drewN ?_ _ | refine blk_drew ?_ | refine blk_alloc ?_ _)); exact BK496.out⟩, ⟨by (with_reducible repeat (first | refine blk_drewN ?_ _ | refine blk_drew ?_ | refine blk_alloc ?_ _)); exact BK503.out⟩, ⟨by repeat (first | (with_reducible first | exact HI0.out | apply IsS72.alloc | apply IsS72.drewN | apply IsS72.drew | apply IsS72.set_1 | apply IsS72.set_2 | refine IsS72.far ?_ NB0_496.out _ | refine IsS72.far ?_ NB0_503.out _) | exact HI0.out)⟩, ⟨by repeat (first | (with_reducible first | exact HK.out | apply KeepBut.set_ | apply keep_drewN | apply keep_drew | apply keep_alloc | refine keep_far ?_ GW496.out _ | refine keep_far ?_ GW503.out _) | exact HK.out)⟩, ⟨by repeat (first | (with_reducible first | exact HB.out | apply below_alloc | apply pw_below_drewN | apply below_drew1 | refine below_set ?_ (IsS72.ge HI0.out) | refine below_set ?_ GE496.out | refine below_set ?_ GE503.out) | exact HB.out)⟩⟩
        ·rw [if_neg c22] at H
         exact absurd H (by simp)
       ·rw [if_neg c20] at H
        have c20b0 : (t504 == 1) = false := beq_eq_false_iff_ne.mpr c20
        have c20b1 : (t504 != 1) = true := bne_iff_ne.mpr c20
        by_cases c27 : x9_1.length < 17592186044416
        ·rw [if_pos c27] at H
         have LMc27 := Aside0.mk c27
         clear c27
         obtain ⟨y519, hy519⟩ : ∃ y_ : List Int, y_ = (x9_1 ++ [wrap64 (t507 + 2)]) := ⟨_, rfl⟩
         replace H : (spec_l1Cur_order.l0 k1 t497 t504 y510 y519 (wrap64 (x10_1 + 1)) s0_0 t508 t509 t497 y500) = some (r1, r2, r3, r4) := by first | (rw [hy519]; with_reducible exact H) | (have H2_ := (Option.bind_some _ _).symm.trans H; rw [hy519]; with_reducible exact H2_) | (have H2_ := (Option.bind_some _ _).symm.trans H; with_reducible exact H2_) | with_reducible exact H | (rw [hy519]; exact H) | exact H
         have Ny519 := Aside0.mk hy519
         clear hy519
         have H' := Aside0.mk H
         clear H
         go_wp2_with (first | ((with_reducible refine gate_callee (f := 90) rfl ?_); refine goesL_ (some 32) rfl rfl Tryd.func90 (by kernel_rfl) rfl #[.pointer (some ⟨g, 0, none⟩), .int .i64 8] rfl (by (try simp only [List.map_toArray, List.map_cons, List.map_nil]); first | done | rfl | (simp only [List.length_drop, List.length_take]; rfl)) ?_; (with_reducible refine (spec_l1Cur_pick.calls g s0_0 x1001_1 x1002_1 8 t507 t508 t509 w0 _ ?side1 ?side2 A18.out).mono ?_); (case side1 => repeat (first | (with_reducible first | exact HI0.out | apply IsS72.alloc | apply IsS72.drewN | apply IsS72.drew | apply IsS72.set_1 | apply IsS72.set_2 | refine IsS72.far ?_ NB0_496.out _ | refine IsS72.far ?_ NB0_503.out _) | exact HI0.out)); (case side2 => repeat (first | (with_reducible first | exact HB.out | apply below_alloc | apply pw_below_drewN | apply below_drew1 | refine below_set ?_ (IsS72.ge HI0.out) | refine below_set ?_ GE496.out | refine below_set ?_ GE503.out) | exact HB.out)); rintro e w28 ⟨rfl, hi, hb, hk⟩; refine ⟨_, rfl, ?_⟩; have n0_ := Aside0.mk (Kd.R_mono (Kd.R_keep (IsS72.apart (show IsS72 w0 _ g s0_0 x1001_1 x1002_1 from by repeat (first | (with_reducible first | exact HI0.out | apply IsS72.alloc | apply IsS72.drewN | apply IsS72.drew | apply IsS72.set_1 | apply IsS72.set_2 | refine IsS72.far ?_ NB0_496.out _ | refine IsS72.far ?_ NB0_503.out _) | exact HI0.out)) (by (with_reducible repeat (first | apply Kd.R_alloc | apply Kd.R_drewN | apply Kd.R_drew)); exact HO_8.out) (by decide)) hk (fun _ h => h.2)) (fun _ h => h.1)); have n1_ := Aside0.mk (Kd.R_mono (Kd.R_keep (IsS72.apart (show IsS72 w0 _ g s0_0 x1001_1 x1002_1 from by repeat (first | (with_reducible first | exact HI0.out | apply IsS72.alloc | apply IsS72.drewN | apply IsS72.drew | apply IsS72.set_1 | apply IsS72.set_2 | refine IsS72.far ?_ NB0_496.out _ | refine IsS72.far ?_ NB0_503.out _) | exact HI0.out)) (by (with_reducible repeat (first | apply Kd.R_alloc | apply Kd.R_drewN | apply Kd.R_drew)); exact HO_9.out) (by decide)) hk (fun _ h => h.2)) (fun _ h => h.1)); have n2_ := Aside0.mk (Kd.R_mono (Kd.R_keep (IsS72.apart (show IsS72 w0 _ g s0_0 x1001_1 x1002_1 from by repeat (first | (with_reducible first | exact HI0.out | apply IsS72.alloc | apply IsS72.drewN | apply IsS72.drew | apply IsS72.set_1 | apply IsS72.set_2 | refine IsS72.far ?_ NB0_496.out _ | refine IsS72.far ?_ NB0_503.out _) | exact HI0.out)) (by (with_reducible repeat (first | apply Kd.R_alloc | apply Kd.R_drewN | apply Kd.R_drew)); exact HO_504001.out) (by decide)) hk (fun _ h => h.2)) (fun _ h => h.1)); have n3_ := Aside0.mk (KeepBut.blk hk (g' := gb496) (o := .cells #[.int .i64 0, .slice none 0 0] 26 (0, 0)) (by (with_reducible repeat (first | refine blk_drewN ?_ _ | refine blk_drew ?_ | refine blk_alloc ?_ _)); exact BK496.out) NB496_0.out (by simp)); have n4_ := Aside0.mk (KeepBut.blk hk (g' := gb503) (o := .cells #[.int .i64 t497, .slice Ao11 y500.length co11] 26 (0, 0)) (by (with_reducible repeat (first | refine blk_drewN ?_ _ | refine blk_drew ?_ | refine blk_alloc ?_ _)); exact BK503.out) NB503_0.out (by simp)); have n5_ := Aside0.mk (KeepBut.trans (by repeat (first | (with_reducible first | exact HK.out | apply KeepBut.set_ | apply keep_drewN | apply keep_drew | apply keep_alloc | refine keep_far ?_ GW496.out _ | refine keep_far ?_ GW503.out _) | exact HK.out)) hk (.inl rfl)); have n6_ := Aside0.mk (hb); have n7_ := Aside0.mk (hi); clear HO_8; clear HO_9; clear HO_504001; clear BK496; clear BK503; clear HK; clear HB; clear HI0; have HO_8 := n0_; have HO_9 := n1_; have HO_504001 := n2_; have BK496 := n3_; have BK503 := n4_; have HK := n5_; have HB := n6_; have HI0 := n7_; clear n0_ n1_ n2_ n3_ n4_ n5_ n6_ n7_; (try clear hb); (try clear hb2); (try clear hk); (try clear hi)) | ((with_reducible refine gate_builtin (b := .append) (xs := #[.tmp 33, .tmp 35]) rfl ?_); at_builtin; refine Kd.R_append (Kd.int .i64) w.heap.size rfl (.tmp 33) (.tmp 35) 22 3 (.int .i64 0) 8 rfl Tryd.underlying22 info3 rfl (by decide) (by omega) u8 x8_1 t507 [.int .i64 t507] (fun k_ => some k_ ≠ (u9 : Value).ownBlock ∧ some k_ ≠ (.slice Ao11 y500.length co11 : Value).ownBlock) (fun _ => False) rfl rfl ?aP (fun _ hk => hk.elim) ?aF ?aO (Below.refl _ _) ?aS ?aL ?_; (case aP => exact rfl); (case aF => exact (fun k_ hk => ⟨Kd.fresh' (Kd.R_lt (by (with_reducible repeat (first | apply Kd.R_alloc | apply Kd.R_drewN | apply Kd.R_drew)); exact HO_9.out)) k_ hk, Kd.fresh' (Kd.R_lt (by (with_reducible repeat (first | apply Kd.R_alloc | apply Kd.R_drewN | apply Kd.R_drew)); exact HO_504001.out)) k_ hk⟩)); (case aO => exact (by (with_reducible repeat (first | apply Kd.R_alloc | apply Kd.R_drewN | apply Kd.R_drew)); exact HO_8.out)); (case aS => exact (keep_size (w := w) (g := g) (row := none) (by repeat (first | (with_reducible first | exact HK.out | apply KeepBut.set_ | apply keep_drewN | apply keep_drew | apply keep_alloc | refine keep_far ?_ GW496.out _ | refine keep_far ?_ GW503.out _) | exact HK.out)))); (case aL => have := LMc19.out; omega); intro v511 w29 ho hb hg hat; rw [← Ny510.out] at ho; have n0_ := Aside0.mk (Kd.R_after (ok := (fun k_ => some k_ ≠ (.slice Ao11 y500.length co11 : Value).ownBlock)) (by (with_reducible repeat (first | apply Kd.R_alloc | apply Kd.R_drewN | apply Kd.R_drew)); exact Kd.R_mono HO_9.out (fun _ hk => ⟨hk.2, hk.1⟩)) hg hat); have n1_ := Aside0.mk (Kd.R_after (ok := (fun k_ => some k_ ≠ (u9 : Value).ownBlock)) (by (with_reducible repeat (first | apply Kd.R_alloc | apply Kd.R_drewN | apply Kd.R_drew)); exact Kd.R_mono HO_504001.out (fun _ hk => ⟨hk.2, hk.1⟩)) hg hat); have n2_ := Aside0.mk (blk_grown (g := gb496) (o := .cells #[.int .i64 0, .slice none 0 0] 26 (0, 0)) (by (with_reducible repeat (first | refine blk_drewN ?_ _ | refine blk_drew ?_ | refine blk_alloc ?_ _)); exact BK496.out) hg (Kd.R_ne HO_8.out BK496.out (by decide))); have n3_ := Aside0.mk (blk_grown (g := gb503) (o := .cells #[.int .i64 t497, .slice Ao11 y500.length co11] 26 (0, 0)) (by (with_reducible repeat (first | refine blk_drewN ?_ _ | refine blk_drew ?_ | refine blk_alloc ?_ _)); exact BK503.out) hg (Kd.R_ne HO_8.out BK503.out (by decide))); have n4_ := Aside0.mk (IsS72.grown (by repeat (first | (with_reducible first | exact HI0.out | apply IsS72.alloc | apply IsS72.drewN | apply IsS72.drew | apply IsS72.set_1 | apply IsS72.set_2 | refine IsS72.far ?_ NB0_496.out _ | refine IsS72.far ?_ NB0_503.out _) | exact HI0.out)) hg (IsS72.own_ne HI0.out HO_8.out (by decide))); have n5_ := Aside0.mk (below_weaken (by repeat (first | (with_reducible first | exact HB.out | apply below_alloc | apply pw_below_drewN | apply below_drew1 | refine below_set ?_ (IsS72.ge HI0.out) | refine below_set ?_ GE496.out | refine below_set ?_ GE503.out) | exact HB.out)) HL.out hb); have n6_ := Aside0.mk (KeepBut.trans (by repeat (first | (with_reducible first | exact HK.out | apply KeepBut.set_ | apply keep_drewN | apply keep_drew | apply keep_alloc | refine keep_far ?_ GW496.out _ | refine keep_far ?_ GW503.out _) | exact HK.out)) (KeepBut.of_grown hg g) (Kd.R_base2 HO_8.out)); have n7_ := Aside0.mk (ho); clear HO_9; clear HO_504001; clear BK496; clear BK503; clear HI0; clear HB; clear HK; clear HO_8; have HO_9 := n0_; have HO_504001 := n1_; have BK496 := n2_; have BK503 := n3_; have HI0 := n4_; have HB := n5_; have HK := n6_; have HO512 := n7_; clear n0_ n1_ n2_ n3_ n4_ n5_ n6_ n7_; clear ho hb hg hat) | ((with_reducible refine gate_builtin (b := .append) (xs := #[.tmp 46, .tmp 49]) rfl ?_); at_builtin; refine Kd.R_append (Kd.int .i64) w.heap.size rfl (.tmp 46) (.tmp 49) 22 3 (.int .i64 0) 8 rfl Tryd.underlying22 info3 rfl (by decide) (by omega) u9 x9_1 (wrap64 (t507 + 2)) [.int .i64 (wrap64 (t507 + 2))] (fun k_ => some k_ ≠ (.slice Ao11 y500.length co11 : Value).ownBlock ∧ some k_ ≠ (v511 : Value).ownBlock) (fun _ => False) rfl rfl ?aP (fun _ hk => hk.elim) ?aF ?aO (Below.refl _ _) ?aS ?aL ?_; (case aP => exact rfl); (case aF => exact (fun k_ hk => ⟨Kd.fresh' (Kd.R_lt (by (with_reducible repeat (first | apply Kd.R_alloc | apply Kd.R_drewN | apply Kd.R_drew)); exact HO_504001.out)) k_ hk, Kd.fresh' (Kd.R_lt (by (with_reducible repeat (first | apply Kd.R_alloc | apply Kd.R_drewN | apply Kd.R_drew)); exact HO512.out)) k_ hk⟩)); (case aO => exact (by (with_reducible repeat (first | apply Kd.R_alloc | apply Kd.R_drewN | apply Kd.R_drew)); exact HO_9.out)); (case aS => exact (keep_size (w := w) (g := g) (row := none) (by repeat (first | (with_reducible first | exact HK.out | apply KeepBut.set_ | apply keep_drewN | apply keep_drew | apply keep_alloc | refine keep_far ?_ GW496.out _ | refine keep_far ?_ GW503.out _) | exact HK.out)))); (case aL => have := LMc27.out; omega); intro v520 w30 ho hb hg hat; rw [← Ny519.out] at ho; have n0_ := Aside0.mk (Kd.R_after (ok := (fun k_ => some k_ ≠ (v511 : Value).ownBlock)) (by (with_reducible repeat (first | apply Kd.R_alloc | apply Kd.R_drewN | apply Kd.R_drew)); exact Kd.R_mono HO_504001.out (fun _ hk => ⟨hk.2, hk.1⟩)) hg hat); have n1_ := Aside0.mk (blk_grown (g := gb496) (o := .cells #[.int .i64 0, .slice none 0 0] 26 (0, 0)) (by (with_reducible repeat (first | refine blk_drewN ?_ _ | refine blk_drew ?_ | refine blk_alloc ?_ _)); exact BK496.out) hg (Kd.R_ne HO_9.out BK496.out (by decide))); have n2_ := Aside0.mk (blk_grown (g := gb503) (o := .cells #[.int .i64 t497, .slice Ao11 y500.length co11] 26 (0, 0)) (by (with_reducible repeat (first | refine blk_drewN ?_ _ | refine blk_drew ?_ | refine blk_alloc ?_ _)); exact BK503.out) hg (Kd.R_ne HO_9.out BK503.out (by decide))); have n3_ := Aside0.mk (IsS72.grown (by repeat (first | (with_reducible first | exact HI0.out | apply IsS72.alloc | apply IsS72.drewN | apply IsS72.drew | apply IsS72.set_1 | apply IsS72.set_2 | refine IsS72.far ?_ NB0_496.out _ | refine IsS72.far ?_ NB0_503.out _) | exact HI0.out)) hg (IsS72.own_ne HI0.out HO_9.out (by decide))); have n4_ := Aside0.mk (Kd.R_after (ok := (fun k_ => some k_ ≠ (.slice Ao11 y500.length co11 : Value).ownBlock)) (by (with_reducible repeat (first | apply Kd.R_alloc | apply Kd.R_drewN | apply Kd.R_drew)); exact Kd.R_mono HO512.out (fun _ hk => ⟨hk.2, hk.1⟩)) hg hat); have n5_ := Aside0.mk (below_weaken (by repeat (first | (with_reducible first | exact HB.out | apply below_alloc | apply pw_below_drewN | apply below_drew1 | refine below_set ?_ (IsS72.ge HI0.out) | refine below_set ?_ GE496.out | refine below_set ?_ GE503.out) | exact HB.out)) HL.out hb); have n6_ := Aside0.mk (KeepBut.trans (by repeat (first | (with_reducible first | exact HK.out | apply KeepBut.set_ | apply keep_drewN | apply keep_drew | apply keep_alloc | refine keep_far ?_ GW496.out _ | refine keep_far ?_ GW503.out _) | exact HK.out)) (KeepBut.of_grown hg g) (Kd.R_base2 HO_9.out)); have n7_ := Aside0.mk (ho); clear HO_504001; clear BK496; clear BK503; clear HI0; clear HO512; clear HB; clear HK; clear HO_9; have HO_504001 := n0_; have BK496 := n1_; have BK503 := n2_; have HI0 := n3_; have HO512 := n4_; have HB := n5_; have HK := n6_; have HO521 := n7_; clear n0_ n1_ n2_ n3_ n4_ n5_ n6_ n7_; clear ho hb hg hat))
         go_roundg k1
         case measure => have := HK1.out; omega
         case rel => exact ⟨(y510), (y519), (wrap64 (x10_1 + 1)), (t508), (t509), (by first | rfl | (simp; done) | (simp [*]; done)), H', ⟨by have := HK1.out; omega⟩, ⟨by (with_reducible repeat (first | apply Kd.R_alloc | apply Kd.R_drewN | apply Kd.R_drew)); exact Kd.R_mono HO512.out (fun _ hk => ⟨hk.2, hk.1⟩)⟩, ⟨by (with_reducible repeat (first | apply Kd.R_alloc | apply Kd.R_drewN | apply Kd.R_drew)); exact Kd.R_mono HO521.out (fun _ hk => ⟨hk.2, hk.1⟩)⟩, ⟨by (with_reducible repeat (first | apply Kd.R_alloc | apply Kd.R_drewN | apply Kd.R_drew)); exact HO_504001.out⟩, ⟨by (with_reducible repeat (first | refine blk_drewN ?_ _ | refine blk_drew ?_ | refine blk_alloc ?_ _)); exact BK496.out⟩, ⟨by (with_reducible repeat (first | refine blk_drewN ?_ _ | refine blk_drew ?_ | refine blk_alloc ?_ _)); exact BK503.out⟩, ⟨by repeat (first | (with_reducible first | exact HI0.out | apply IsS72.alloc | apply IsS72.drewN | apply IsS72.drew | apply IsS72.set_1 | apply IsS72.set_2 | refine IsS72.far ?_ NB0_496.out _ | refine IsS72.far ?_ NB0_503.out _) | exact HI0.out)⟩, ⟨by repeat (first | (with_reducible first | exact HK.out | apply KeepBut.set_ | apply keep_drewN | apply keep_drew | apply keep_alloc | refine keep_far ?_ GW496.out _ | refine keep_far ?_ GW503.out _) | exact HK.out)⟩, ⟨by repeat (first | (with_reducible first | exact HB.out | apply below_alloc | apply pw_below_drewN | apply below_drew1 | refine below_set ?_ (IsS72.ge HI0.out) | refine below_set ?_ GE496.out | refine below_set ?_ GE503.out) | exact HB.out)⟩⟩
        ·rw [if_neg c27] at H
         exact absurd H (by simp)
      ·rw [if_neg c19] at H
       exact absurd H (by simp)
     ·rw [if_neg c17] at H
      have c17b0 : decide (x10_1 < t497) = false := decide_eq_false c17
      clear c17
      have H' := Aside0.mk H
      clear H
      go_wp2
      go_loopg [12] k1 (fun kq v12 w' => ∃ (x8_2 : List Int) (x9_2 : List Int) (x12_2 : Int) (x1001_2 : Int) (x1002_2 : Int) (x504001_2 : List Int) (u504001 : Value), v12 = .int .i64 x12_2 ∧ Aside0 (spec_l1Cur_order.l1 kq t497 t504 x8_2 x9_2 x12_2 s0_0 x1001_2 x1002_2 t497 x504001_2 = some (r1, r2, r3, r4)) ∧ Aside0 (kq ≤ k1) ∧ Aside0 (Kd.R (Kd.int .i64) 3 w' w.heap.size (fun k_ => some k_ ≠ (u9 : Value).ownBlock ∧ some k_ ≠ (u504001 : Value).ownBlock) u8 x8_2) ∧ Aside0 (Kd.R (Kd.int .i64) 3 w' w.heap.size (fun k_ => some k_ ≠ (u8 : Value).ownBlock ∧ some k_ ≠ (u504001 : Value).ownBlock) u9 x9_2) ∧ Aside0 (Kd.R (Kd.int .i64) 3 w' w.heap.size (fun k_ => some k_ ≠ (u8 : Value).ownBlock ∧ some k_ ≠ (u9 : Value).ownBlock) u504001 x504001_2) ∧ Aside0 (w'.heap[gb496]? = some (.cells #[.int .i64 0, (.slice none 0 0)] 26 (0, 0))) ∧ Aside0 (w'.heap[gb503]? = some (.cells #[.int .i64 t497, u504001] 26 (0, 0))) ∧ Aside0 (IsS72 w0 w' g s0_0 x1001_2 x1002_2) ∧ Aside0 (KeepBut w w' g none) ∧ Aside0 (Below w0.heap.size w0 w'))
      case atStart => exact ⟨(x8_1), (x9_1), (0), (x1001_1), (x1002_1), (y500), (.slice Ao11 y500.length co11), (by first | rfl | (simp; done) | (simp [*]; done)), H', ⟨Nat.le_refl _⟩, ⟨by (with_reducible repeat (first | apply Kd.R_alloc | apply Kd.R_drewN | apply Kd.R_drew)); exact HO_8.out⟩, ⟨by (with_reducible repeat (first | apply Kd.R_alloc | apply Kd.R_drewN | apply Kd.R_drew)); exact HO_9.out⟩, ⟨by (with_reducible repeat (first | apply Kd.R_alloc | apply Kd.R_drewN | apply Kd.R_drew)); exact HO_504001.out⟩, ⟨by (with_reducible repeat (first | refine blk_drewN ?_ _ | refine blk_drew ?_ | refine blk_alloc ?_ _)); exact BK496.out⟩, ⟨by (with_reducible repeat (first | refine blk_drewN ?_ _ | refine blk_drew ?_ | refine blk_alloc ?_ _)); exact BK503.out⟩, ⟨by repeat (first | (with_reducible first | exact HI0.out | apply IsS72.alloc | apply IsS72.drewN | apply IsS72.drew | apply IsS72.set_1 | apply IsS72.set_2 | refine IsS72.far ?_ NB0_496.out _ | refine IsS72.far ?_ NB0_503.out _) | exact HI0.out)⟩, ⟨by repeat (first | (with_reducible first | exact HK.out | apply KeepBut.set_ | apply keep_drewN | apply keep_drew | apply keep_alloc | refine keep_far ?_ GW496.out _ | refine keep_far ?_ GW503.out _) | exact HK.out)⟩, ⟨by repeat (first | (with_reducible first | exact HB.out | apply below_alloc | apply pw_below_drewN | apply below_drew1 | refine below_set ?_ (IsS72.ge HI0.out) | refine below_set ?_ GE496.out | refine below_set ?_ GE503.out) | exact HB.out)⟩⟩
      case round =>
       clear H'
       try clear c1
       try clear c2
       try clear p2
       try clear c4
       try clear c4b0
       try clear c4b1
       try clear c5
       try clear c5b0
       try clear c5b1
       try clear p6
       try clear c9
       try clear c13
       try clear c14
       try clear c15
       try clear c17
       try clear c17b0
       try clear c19
       try clear c20
       try clear c20b0
       try clear c20b1
       try clear c22
       try clear c27
       try clear hcz15_0
       try clear hcz15_1
       try clear hfz15_0
       try clear hfz15_1
       try clear p2
       try clear p6
       obtain ⟨x8_2, x9_2, x12_2, x1001_2, x1002_2, x504001_2, u504001, rfl, HA, HK2, HO_8, HO_9, HO_504001, BK496, BK503, HI0, HK, HB⟩ := hrel
       cases gk with
       | zero => exact absurd HA.out (by simp [spec_l1Cur_order.l1])
       | succ k2 =>
        have H := HA.out
        clear HA
        simp only [spec_l1Cur_order.l1] at H
        by_cases c31 : x12_2 < t497
        ·rw [if_pos c31] at H
         have c31b0 : decide (x12_2 < t497) = true := decide_eq_true c31
         clear c31
         have H' := Aside0.mk H
         clear H
         go_wp2
         go_loopg [13] k2 (fun kq v13 w' => ∃ (x8_3 : List Int) (x9_3 : List Int) (x13_3 : Int) (x1001_3 : Int) (x1002_3 : Int) (x504001_3 : List Int) (u504001 : Value), v13 = .int .i64 x13_3 ∧ Aside0 (spec_l1Cur_order.l2 kq t497 t504 x8_3 x9_3 x12_2 x13_3 s0_0 x1001_3 x1002_3 t497 x504001_3 = some (r1, r2, r3, r4)) ∧ Aside0 (kq ≤ k2) ∧ Aside0 (Kd.R (Kd.int .i64) 3 w' w.heap.size (fun k_ => some k_ ≠ (u9 : Value).ownBlock ∧ some k_ ≠ (u504001 : Value).ownBlock) u8 x8_3) ∧ Aside0 (Kd.R (Kd.int .i64) 3 w' w.heap.size (fun k_ => some k_ ≠ (u8 : Value).ownBlock ∧ some k_ ≠ (u504001 : Value).ownBlock) u9 x9_3) ∧ Aside0 (Kd.R (Kd.int .i64) 3 w' w.heap.size (fun k_ => some k_ ≠ (u8 : Value).ownBlock ∧ some k_ ≠ (u9 : Value).ownBlock) u504001 x504001_3) ∧ Aside0 (w'.heap[gb496]? = some (.cells #[.int .i64 0, (.slice none 0 0)] 26 (0, 0))) ∧ Aside0 (w'.heap[gb503]? = some (.cells #[.int .i64 t497, u504001] 26 (0, 0))) ∧ Aside0 (IsS72 w0 w' g s0_0 x1001_3 x1002_3) ∧ Aside0 (KeepBut w w' g none) ∧ Aside0 (Below w0.heap.size w0 w'))
         case atStart => exact ⟨(x8_2), (x9_2), (0), (x1001_2), (x1002_2), (x504001_2), (u504001), (by first | rfl | (simp; done) | (simp [*]; done)), H', ⟨Nat.le_refl _⟩, ⟨by (with_reducible repeat (first | apply Kd.R_alloc | apply Kd.R_drewN | apply Kd.R_drew)); exact HO_8.out⟩, ⟨by (with_reducible repeat (first | apply Kd.R_alloc | apply Kd.R_drewN | apply Kd.R_drew)); exact HO_9.out⟩, ⟨by (with_reducible repeat (first | apply Kd.R_alloc | apply Kd.R_drewN | apply Kd.R_drew)); exact HO_504001.out⟩, ⟨by (with_reducible repeat (first | refine blk_drewN ?_ _ | refine blk_drew ?_ | refine blk_alloc ?_ _)); exact BK496.out⟩, ⟨by (with_reducible repeat (first | refine blk_drewN ?_ _ | refine blk_drew ?_ | refine blk_alloc ?_ _)); exact BK503.out⟩, ⟨by repeat (first | (with_reducible first | exact HI0.out | apply IsS72.alloc | apply IsS72.drewN | apply IsS72.drew | apply IsS72.set_1 | apply IsS72.set_2 | refine IsS72.far ?_ NB0_496.out _ | refine IsS72.far ?_ NB0_503.out _) | exact HI0.out)⟩, ⟨by repeat (first | (with_reducible first | exact HK.out | apply KeepBut.set_ | apply keep_drewN | apply keep_drew | apply keep_alloc | refine keep_far ?_ GW496.out _ | refine keep_far ?_ GW503.out _) | exact HK.out)⟩, ⟨by repeat (first | (with_reducible first | exact HB.out | apply below_alloc | apply pw_below_drewN | apply below_drew1 | refine below_set ?_ (IsS72.ge HI0.out) | refine below_set ?_ GE496.out | refine below_set ?_ GE503.out) | exact HB.out)⟩⟩
         case round =>
          clear H'
          try clear c1
          try clear c2
          try clear p2
          try clear c3
          try clear c4
          try clear c4b0
          try clear c4b1
          try clear c5
          try clear c5b0
          try clear c5b1
          try clear p6
          try clear c9
          try clear c13
          try clear c14
          try clear c15
          try clear c17
          try clear c17b0
          try clear c19
          try clear c20
          try clear c20b0
          try clear c20b1
          try clear c22
          try clear c27
          try clear c31
          try clear c31b0
          try clear hcz15_0
          try clear hcz15_1
          try clear hfz15_0
          try clear hfz15_1
          try clear p2
          try clear p6
          obtain ⟨x8_3, x9_3, x13_3, x1001_3, x1002_3, x504001_3, u504001, rfl, HA, HK3, HO_8, HO_9, HO_504001, BK496, BK503, HI0, HK, HB⟩ := hrel
          cases gk with
          | zero => exact absurd HA.out (by simp [spec_l1Cur_order.l2])
          | succ k3 =>
           have H := HA.out
           clear HA
           simp only [spec_l1Cur_order.l2] at H
           by_cases c32 : x13_3 < t497
           ·rw [if_pos c32] at H
            have c32b0 : decide (x13_3 < t497) = true := decide_eq_true c32
            clear c32
            by_cases c33 : t504 > 0
            ·rw [if_pos c33] at H
             have c33b0 : decide (0 < t504) = true := decide_eq_true c33
             clear c33
             by_cases c34 : 0 ≤ x12_2
             ·rw [if_pos c34] at H
              have c34b0 : decide (0 ≤ x12_2) = true := decide_eq_true c34
              clear c34
              by_cases c35 : x12_2 < (x9_3.length : Int)
              ·rw [if_pos c35] at H
               have c35b0 : decide (x12_2 < (x9_3.length : Int)) = true := decide_eq_true c35
               clear c35
               by_cases c36 : 0 ≤ x13_3
               ·rw [if_pos c36] at H
                have c36b0 : decide (0 ≤ x13_3) = true := decide_eq_true c36
                clear c36
                by_cases c37 : x13_3 < (x8_3.length : Int)
                ·rw [if_pos c37] at H
                 have c37b0 : decide (x13_3 < (x8_3.length : Int)) = true := decide_eq_true c37
                 clear c37
                 by_cases c38 : (rd x9_3 x12_2) < (rd x8_3 x13_3)
                 ·rw [if_pos c38] at H
                  have c38b0 : decide ((rd x9_3 x12_2) < (rd x8_3 x13_3)) = true := decide_eq_true c38
                  clear c38
                  by_cases c39 : x12_2 < (x504001_3.length : Int)
                  ·rw [if_pos c39] at H
                   have c39b0 : decide (x12_2 < (x504001_3.length : Int)) = true := decide_eq_true c39
                   clear c39
                   have c40b0 := eq_true (of_decide_eq_true (by first | (with_reducible assumption) | assumption) : 0 ≤ x13_3)
                   obtain ⟨ji41, hji41⟩ : ∃ j_ : Int, (shl .i64 1 x13_3) = j_ := ⟨_, rfl⟩
                   replace H : (spec_l1Cur_order.l2 k3 t497 t504 x8_3 x9_3 x12_2 (wrap64 (x13_3 + 1)) s0_0 x1001_3 x1002_3 t497 (x504001_3.set (x12_2 : Int).toNat (Go.bits .or .i64 (rd x504001_3 x12_2) (ji41)))) = some (r1, r2, r3, r4) := by first | (rw [hji41] at H; exact H) | (simp only [hji41] at H ⊢; exact H)
                   have hji41_ : (IntKind.i64.wrap (1 * 2 ^ min x13_3.toNat 64)) = ji41 := hji41
                   have hji41z : x13_3 ≤ 64 → (IntKind.i64.wrap (1 * 2 ^ x13_3.toNat)) = ji41 := shl_small hji41
                   have hji41u : (IntKind.i64.wrap (2 ^ min x13_3.toNat 64)) = ji41 := by have h_ := hji41_; rw [Int.one_mul] at h_; exact h_
                   have hji41v : x13_3 ≤ 64 → (IntKind.i64.wrap (2 ^ x13_3.toNat)) = ji41 := fun hle_ => by have h_ := hji41z hle_; rw [Int.one_mul] at h_; exact h_
                   have hji41y : (wrap64 (1 * 2 ^ min x13_3.toNat 64)) = ji41 := (i64_w _).symm.trans hji41_
                   have hji41x : x13_3 ≤ 64 → (wrap64 (1 * 2 ^ x13_3.toNat)) = ji41 := fun h_ => (i64_w _).symm.trans (hji41z h_)
                   obtain ⟨y531, hy531⟩ : ∃ y_ : List Int, y_ = (x504001_3.set (x12_2 : Int).toNat (Go.bits .or .i64 (rd x504001_3 x12_2) (ji41))) := ⟨_, rfl⟩
                   replace H : (spec_l1Cur_order.l2 k3 t497 t504 x8_3 x9_3 x12_2 (wrap64 (x13_3 + 1)) s0_0 x1001_3 x1002_3 t497 y531) = some (r1, r2, r3, r4) := by first | (rw [hy531]; with_reducible exact H) | (have H2_ := (Option.bind_some _ _).symm.trans H; rw [hy531]; with_reducible exact H2_) | (have H2_ := (Option.bind_some _ _).symm.trans H; with_reducible exact H2_) | with_reducible exact H | (rw [hy531]; exact H) | exact H
                   have Ny531 := Aside0.mk hy531
                   clear hy531
                   have H' := Aside0.mk H
                   clear H
                   try go_wp2
                   have n0_ := Aside0.mk (Kd.R_drew HO_8.out)
                   have n1_ := Aside0.mk (Kd.R_drew HO_9.out)
                   have n2_ := Aside0.mk (Kd.R_drew HO_504001.out)
                   have n3_ := Aside0.mk (blk_drew BK496.out)
                   have n4_ := Aside0.mk (blk_drew BK503.out)
                   have n5_ := Aside0.mk (IsS72.drew HI0.out)
                   have n6_ := Aside0.mk (keep_drew HK.out)
                   have n7_ := Aside0.mk (below_drew1 HB.out)
                   clear HO_8
                   clear HO_9
                   clear HO_504001
                   clear BK496
                   clear BK503
                   clear HI0
                   clear HK
                   clear HB
                   have HO_8 := n0_
                   have HO_9 := n1_
                   have HO_504001 := n2_
                   have BK496 := n3_
                   have BK503 := n4_
                   have HI0 := n5_
                   have HK := n6_
                   have HB := n7_
                   clear n0_ n1_ n2_ n3_ n4_ n5_ n6_ n7_
                   obtain ⟨Ao44, co44, eo44⟩ := Kd.R_slice HO_9.out
                   (first | subst eo44 | (injection eo44 with f1_ f2_ f3_; have f4_ := f1_.symm; have f5_ := f3_.symm; clear f1_ f2_ f3_; subst f4_; subst f5_))
                   have p528 : 0 ≤ (x12_2 : Int) := of_decide_eq_true (by first | (with_reducible assumption) | assumption)
                   have q528 : x12_2 < (x9_3.length : Int) := of_decide_eq_true (by first | (with_reducible assumption) | assumption)
                   obtain ⟨ad528, e528, hx528_0⟩ := Kd.at_int (Kd.R_reads' HO_9.out).2.2 x12_2 p528 q528
                   cases e528
                   replace p528 := eq_true p528
                   replace q528 := eq_true q528
                   obtain ⟨Ao45, co45, eo45⟩ := Kd.R_slice HO_8.out
                   (first | subst eo45 | (injection eo45 with f1_ f2_ f3_; have f4_ := f1_.symm; have f5_ := f3_.symm; clear f1_ f2_ f3_; subst f4_; subst f5_))
                   have p529 : 0 ≤ (x13_3 : Int) := of_decide_eq_true (by first | (with_reducible assumption) | assumption)
                   have q529 : x13_3 < (x8_3.length : Int) := of_decide_eq_true (by first | (with_reducible assumption) | assumption)
                   obtain ⟨ad529, e529, hx529_0⟩ := Kd.at_int (Kd.R_reads' HO_8.out).2.2 x13_3 p529 q529
                   cases e529
                   replace p529 := eq_true p529
                   replace q529 := eq_true q529
                   refine start_ (n := 26) (S := fun w' => w'.cell? (ad528.add (x12_2).toNat) = some (.int .i64 (rd x9_3 x12_2)) ∧ w'.cell? (ad529.add (x13_3).toNat) = some (.int .i64 (rd x8_3 x13_3))) (ds := []) #[F,F,F,F,F,F,F,F,F,F,F,F,F,F,F,F,F,F,F,F,F,F,F,F,F,F] (by kernel_rfl) rfl rfl ⟨hx528_0, hx529_0⟩ (fun hHeld => ?_); refine with_tabW spec_l1Cur_order.tab19 spec_l1Cur_order.bits19 (fun HT_ HW_ => ?_)
                   generalize wr.drew = w43 at HO_8 HO_9 HO_504001 BK496 BK503 HI0 HK HB hx528_0 hx529_0 hHeld ⊢
                   refine pure_ (i := 0) (N := some 61) (v := ?_) (a' := ?_) #[T,F,F,F,F,F,F,F,F,F,F,F,F,F,F,F,F,F,F,F,F,F,F,F,F,F] rfl rfl (any_of HT_.out (by kernel_rfl)) (fun _ _ _ h => h) (Or.inl ⟨by rfl, ?_⟩) ?_ ?_
                   rotate_left;·intro w';go_simp;with_reducible rfl
                   rotate_left;·simp only [Act.put, L_,M_,N_, i64_w, i32_w];rfl
                   refine pure_ (i := 1) (N := some 62) (v := ?_) (a' := ?_) #[T,T,F,F,F,F,F,F,F,F,F,F,F,F,F,F,F,F,F,F,F,F,F,F,F,F] rfl rfl (any_of HT_.out (by kernel_rfl)) (fun _ _ _ h => h) (Or.inl ⟨by rfl, ?_⟩) ?_ ?_
                   rotate_left;·intro w';go_simp;with_reducible rfl
                   rotate_left;·simp only [Act.put, L_,M_,N_, i64_w, i32_w];rfl
                   refine pure_ (i := 2) (N := some 63) (v := ?_) (a' := ?_) #[T,T,T,F,F,F,F,F,F,F,F,F,F,F,F,F,F,F,F,F,F,F,F,F,F,F] rfl rfl (any_of HT_.out (by kernel_rfl)) (fun _ _ _ h => h) (Or.inl ⟨by rfl, ?_⟩) ?_ ?_
                   rotate_left;·intro w';go_simp;with_reducible rfl
                   rotate_left;·simp only [Act.put, L_,M_,N_, i64_w, i32_w];rfl
                   refine pure_ (i := 3) (N := some 64) (v := ?_) (a' := ?_) #[T,T,T,T,F,F,F,F,F,F,F,F,F,F,F,F,F,F,F,F,F,F,F,F,F,F] rfl rfl (any_of HT_.out (by kernel_rfl)) (fun _ _ _ h => h) (Or.inl ⟨by rfl, ?_⟩) ?_ ?_
                   rotate_left;·intro w';go_simp;with_reducible rfl
                   rotate_left;·simp only [Act.put, L_,M_,N_, i64_w, i32_w];rfl
                   refine pure_ (i := 4) (N := some 65) (v := ?_) (a' := ?_) #[T,T,T,T,T,F,F,F,F,F,F,F,F,F,F,F,F,F,F,F,F,F,F,F,F,F] rfl rfl (any_of HT_.out (by kernel_rfl)) (fun _ _ _ h => h) (Or.inl ⟨by rfl, ?_⟩) ?_ ?_
                   rotate_left;·intro w';go_simp;with_reducible rfl
                   rotate_left;·simp only [Act.put, L_,M_,N_, i64_w, i32_w];rfl
                   refine pure_ (i := 5) (N := some 66) (v := ?_) (a' := ?_) #[T,T,T,T,T,T,F,F,F,F,F,F,F,F,F,F,F,F,F,F,F,F,F,F,F,F] rfl rfl (any_of HT_.out (by kernel_rfl)) (fun _ _ _ h => h) (Or.inl ⟨by rfl, ?_⟩) ?_ ?_
                   rotate_left;·intro w';go_simp;with_reducible rfl
                   rotate_left;·simp only [Act.put, L_,M_,N_, i64_w, i32_w];rfl
                   refine pure_ (i := 7) (N := some 68) (v := ?_) (a' := ?_) #[T,T,T,T,T,T,F,T,F,F,F,F,F,F,F,F,F,F,F,F,F,F,F,F,F,F] rfl rfl (any_of HT_.out (by kernel_rfl)) (fun _ _ _ h => h) (Or.inl ⟨by rfl, ?_⟩) ?_ ?_
                   rotate_left;·intro w';go_simp;with_reducible rfl
                   rotate_left;·simp only [Act.put, L_,M_,N_, i64_w, i32_w];rfl
                   refine pure_ (i := 8) (N := some 69) (v := ?_) (a' := ?_) #[T,T,T,T,T,T,F,T,T,F,F,F,F,F,F,F,F,F,F,F,F,F,F,F,F,F] rfl rfl (any_of HT_.out (by kernel_rfl)) (fun _ _ _ h => h) (Or.inl ⟨by rfl, ?_⟩) ?_ ?_
                   rotate_left;·intro w';go_simp;with_reducible rfl
                   rotate_left;·simp only [Act.put, L_,M_,N_, i64_w, i32_w];rfl
                   refine pure_ (i := 9) (N := some 70) (v := ?_) (a' := ?_) #[T,T,T,T,T,T,F,T,T,T,F,F,F,F,F,F,F,F,F,F,F,F,F,F,F,F] rfl rfl (any_of HT_.out (by kernel_rfl)) (fun _ _ _ h => h) (Or.inl ⟨by rfl, ?_⟩) ?_ ?_
                   rotate_left;·intro w';go_simp;with_reducible rfl
                   rotate_left;·simp only [Act.put, L_,M_,N_, i64_w, i32_w];rfl
                   refine take_ (i := 6) (N := some 67) (v := ?_) (a' := ?_) #[T,T,T,T,T,T,T,T,T,T,F,F,F,F,F,F,F,F,F,F,F,F,F,F,F,F] rfl rfl (take_ofW HT_.out HW_.out (by kernel_rfl)) (fun _ _ _ h => h) (Or.inl ⟨by rfl, ?_⟩) hHeld ?_ ?_
                   rotate_left
                   ·rintro w' ⟨s0, s1⟩
                    go_simp
                    with_reducible rfl
                   rotate_left;·simp only [Act.put, L_,M_,N_, i64_w, i32_w];rfl
                   refine take_ (i := 10) (N := some 71) (v := ?_) (a' := ?_) #[T,T,T,T,T,T,T,T,T,T,T,F,F,F,F,F,F,F,F,F,F,F,F,F,F,F] rfl rfl (take_ofW HT_.out HW_.out (by kernel_rfl)) (fun _ _ _ h => h) (Or.inl ⟨by rfl, ?_⟩) hHeld ?_ ?_
                   rotate_left
                   ·rintro w' ⟨s0, s1⟩
                    go_simp
                    with_reducible rfl
                   rotate_left;·simp only [Act.put, L_,M_,N_, i64_w, i32_w];rfl
                   refine pure_ (i := 11) (N := some 72) (v := ?_) (a' := ?_) #[T,T,T,T,T,T,T,T,T,T,T,T,F,F,F,F,F,F,F,F,F,F,F,F,F,F] rfl rfl (any_of HT_.out (by kernel_rfl)) (fun _ _ _ h => h) (Or.inl ⟨by rfl, ?_⟩) ?_ ?_
                   rotate_left;·intro w';go_simp;with_reducible rfl
                   rotate_left;·simp only [Act.put, L_,M_,N_, i64_w, i32_w];rfl
                   refine pure_ (i := 12) (N := some 73) (v := ?_) (a' := ?_) #[T,T,T,T,T,T,T,T,T,T,T,T,T,F,F,F,F,F,F,F,F,F,F,F,F,F] rfl rfl (any_of HT_.out (by kernel_rfl)) (fun _ _ _ h => h) (Or.inl ⟨by rfl, ?_⟩) ?_ ?_
                   rotate_left;·intro w';go_simp;with_reducible rfl
                   rotate_left;·simp only [Act.put, L_,M_,N_, i64_w, i32_w];rfl
                   refine pure_ (i := 13) (N := some 74) (v := ?_) (a' := ?_) #[T,T,T,T,T,T,T,T,T,T,T,T,T,T,F,F,F,F,F,F,F,F,F,F,F,F] rfl rfl (any_of HT_.out (by kernel_rfl)) (fun _ _ _ h => h) (Or.inl ⟨by rfl, ?_⟩) ?_ ?_
                   rotate_left;·intro w';go_simp;with_reducible rfl
                   rotate_left;·simp only [Act.put, L_,M_,N_, i64_w, i32_w];rfl
                   refine pure_ (i := 14) (N := some 75) (v := undef) (a' := ?_) #[T,T,T,T,T,T,T,T,T,T,T,T,T,T,T,F,F,F,F,F,F,F,F,F,F,F] rfl rfl (any_of HT_.out (by kernel_rfl)) (fun _ _ _ h => h) (Or.inr ⟨by rfl, rfl⟩) ?_ ?_
                   rotate_left;·simp only [Act.put, L_,M_,N_, i64_w, i32_w];rfl
                   refine pure_ (i := 15) (N := some 76) (v := undef) (a' := ?_) #[T,T,T,T,T,T,T,T,T,T,T,T,T,T,T,T,F,F,F,F,F,F,F,F,F,F] rfl rfl (any_of HT_.out (by kernel_rfl)) (fun _ _ _ h => h) (Or.inr ⟨by rfl, rfl⟩) ?_ ?_
                   rotate_left;·simp only [Act.put, L_,M_,N_, i64_w, i32_w];rfl
                   refine pure_ (i := 16) (N := some 77) (v := undef) (a' := ?_) #[T,T,T,T,T,T,T,T,T,T,T,T,T,T,T,T,T,F,F,F,F,F,F,F,F,F] rfl rfl (any_of HT_.out (by kernel_rfl)) (fun _ _ _ h => h) (Or.inr ⟨by rfl, rfl⟩) ?_ ?_
                   rotate_left;·simp only [Act.put, L_,M_,N_, i64_w, i32_w];rfl
                   refine pure_ (i := 17) (N := some 78) (v := undef) (a' := ?_) #[T,T,T,T,T,T,T,T,T,T,T,T,T,T,T,T,T,T,F,F,F,F,F,F,F,F] rfl rfl (any_of HT_.out (by kernel_rfl)) (fun _ _ _ h => h) (Or.inr ⟨by rfl, rfl⟩) ?_ ?_
                   rotate_left;·simp only [Act.put, L_,M_,N_, i64_w, i32_w];rfl
                   refine pure_ (i := 18) (N := some 79) (v := undef) (a' := ?_) #[T,T,T,T,T,T,T,T,T,T,T,T,T,T,T,T,T,T,T,F,F,F,F,F,F,F] rfl rfl (any_of HT_.out (by kernel_rfl)) (fun _ _ _ h => h) (Or.inr ⟨by rfl, rfl⟩) ?_ ?_
                   rotate_left;·simp only [Act.put, L_,M_,N_, i64_w, i32_w];rfl
                   refine pure_ (i := 19) (N := some 80) (v := undef) (a' := ?_) #[T,T,T,T,T,T,T,T,T,T,T,T,T,T,T,T,T,T,T,T,F,F,F,F,F,F] rfl rfl (any_of HT_.out (by kernel_rfl)) (fun _ _ _ h => h) (Or.inr ⟨by rfl, rfl⟩) ?_ ?_
                   rotate_left;·simp only [Act.put, L_,M_,N_, i64_w, i32_w];rfl
                   refine pure_ (i := 20) (N := some 81) (v := undef) (a' := ?_) #[T,T,T,T,T,T,T,T,T,T,T,T,T,T,T,T,T,T,T,T,T,F,F,F,F,F] rfl rfl (any_of HT_.out (by kernel_rfl)) (fun _ _ _ h => h) (Or.inr ⟨by rfl, rfl⟩) ?_ ?_
                   rotate_left;·simp only [Act.put, L_,M_,N_, i64_w, i32_w];rfl
                   refine pure_ (i := 21) (N := some 82) (v := undef) (a' := ?_) #[T,T,T,T,T,T,T,T,T,T,T,T,T,T,T,T,T,T,T,T,T,T,F,F,F,F] rfl rfl (any_of HT_.out (by kernel_rfl)) (fun _ _ _ h => h) (Or.inr ⟨by rfl, rfl⟩) ?_ ?_
                   rotate_left;·simp only [Act.put, L_,M_,N_, i64_w, i32_w];rfl
                   refine pure_ (i := 22) (N := some 83) (v := undef) (a' := ?_) #[T,T,T,T,T,T,T,T,T,T,T,T,T,T,T,T,T,T,T,T,T,T,T,F,F,F] rfl rfl (any_of HT_.out (by kernel_rfl)) (fun _ _ _ h => h) (Or.inr ⟨by rfl, rfl⟩) ?_ ?_
                   rotate_left;·simp only [Act.put, L_,M_,N_, i64_w, i32_w];rfl
                   refine pure_ (i := 23) (N := some 84) (v := undef) (a' := ?_) #[T,T,T,T,T,T,T,T,T,T,T,T,T,T,T,T,T,T,T,T,T,T,T,T,F,F] rfl rfl (any_of HT_.out (by kernel_rfl)) (fun _ _ _ h => h) (Or.inr ⟨by rfl, rfl⟩) ?_ ?_
                   rotate_left;·simp only [Act.put, L_,M_,N_, i64_w, i32_w];rfl
                   refine pure_ (i := 24) (N := some 85) (v := undef) (a' := ?_) #[T,T,T,T,T,T,T,T,T,T,T,T,T,T,T,T,T,T,T,T,T,T,T,T,T,F] rfl rfl (any_of HT_.out (by kernel_rfl)) (fun _ _ _ h => h) (Or.inr ⟨by rfl, rfl⟩) ?_ ?_
                   rotate_left;·simp only [Act.put, L_,M_,N_, i64_w, i32_w];rfl
                   refine pure_ (i := 25) (N := some 86) (v := ?_) (a' := ?_) #[T,T,T,T,T,T,T,T,T,T,T,T,T,T,T,T,T,T,T,T,T,T,T,T,T,T] rfl rfl (any_of HT_.out (by kernel_rfl)) (fun _ _ _ h => h) (Or.inl ⟨by rfl, ?_⟩) ?_ ?_
                   rotate_left;·intro w';go_simp;with_reducible rfl
                   rotate_left;·simp only [Act.put, L_,M_,N_, i64_w, i32_w];rfl
                   refine done_ (done_of HT_.out (by kernel_rfl)) ?_
                   try go_wp2
                   have n0_ := Aside0.mk (Kd.R_drew HO_8.out)
                   have n1_ := Aside0.mk (Kd.R_drew HO_9.out)
                   have n2_ := Aside0.mk (Kd.R_drew HO_504001.out)
                   have n3_ := Aside0.mk (blk_drew BK496.out)
                   have n4_ := Aside0.mk (blk_drew BK503.out)
                   have n5_ := Aside0.mk (IsS72.drew HI0.out)
                   have n6_ := Aside0.mk (keep_drew HK.out)
                   have n7_ := Aside0.mk (below_drew1 HB.out)
                   clear HO_8
                   clear HO_9
                   clear HO_504001
                   clear BK496
                   clear BK503
                   clear HI0
                   clear HK
                   clear HB
                   have HO_8 := n0_
                   have HO_9 := n1_
                   have HO_504001 := n2_
                   have BK496 := n3_
                   have BK503 := n4_
                   have HI0 := n5_
                   have HK := n6_
                   have HB := n7_
                   clear n0_ n1_ n2_ n3_ n4_ n5_ n6_ n7_
                   obtain ⟨Ao47, co47, eo47⟩ := Kd.R_slice HO_504001.out
                   (first | subst eo47 | (injection eo47 with f1_ f2_ f3_; have f4_ := f1_.symm; have f5_ := f3_.symm; clear f1_ f2_ f3_; subst f4_; subst f5_))
                   have p530 : 0 ≤ (x12_2 : Int) := of_decide_eq_true (by first | (with_reducible assumption) | assumption)
                   have q530 : x12_2 < (x504001_3.length : Int) := of_decide_eq_true (by first | (with_reducible assumption) | assumption)
                   obtain ⟨ad530, e530, hx530_0⟩ := Kd.at_int (Kd.R_reads' HO_504001.out).2.2 x12_2 p530 q530
                   cases e530
                   replace p530 := eq_true p530
                   replace q530 := eq_true q530
                   have p42 : 0 ≤ (x12_2 : Int) := of_decide_eq_true (by first | (with_reducible assumption) | assumption)
                   have q42 : (x12_2 : Int) < ((x504001_3.length : Int) : Int) := of_decide_eq_true (by first | (with_reducible assumption) | assumption)
                   obtain ⟨go42, co42, eo42, gb42, gl42, cl42, HG42⟩ := Kd.R_form HO_504001.out (by omega)
                   (first | cases eo42 | (injection eo42 with ea_ en_ ec_; (first | subst ea_ | (injection ea_ with ea_; subst ea_)); subst ec_; clear en_))
                   have GB42 := Aside0.mk gb42
                   have GG42 := Aside0.mk HG42
                   clear gb42 gl42 HG42
                   (first | simp only [add_plain] at hx530_0 | skip)
                   obtain ⟨hx42_0, hf42_0⟩ := Kd.R_celln 0 HO_504001.out (x12_2 : Int) p42 q42
                   replace p42 := eq_true p42
                   replace q42 := eq_true q42
                   have HN0_go42 := Aside0.mk (show g ≠ go42 from by have h_ := IsS72.own_ne HI0.out HO_504001.out (by decide); intro e_; exact h_ (by rw [e_]; rfl))
                   have HP48 := Kd.R_putn HO_504001.out (x12_2 : Int) (Go.bits .or .i64 (rd x504001_3 x12_2) (ji41))
                   rw [← Ny531.out] at HP48
                   have HQ48 := Aside0.mk HP48
                   clear HP48
                   refine start_ (n := 10) (S := fun w' => w'.cell? ⟨gb503, 0, none⟩ = some (.int .i64 t497) ∧ w'.cell? ⟨gb503, 1, none⟩ = some (.slice (some ⟨go42, 0, none⟩) x504001_3.length co47) ∧ w'.cell? ⟨go42, (x12_2).toNat, none⟩ = some (.int .i64 (rd x504001_3 x12_2))) (ds := [9]) #[F,F,F,F,F,F,F,F,F,F] (by kernel_rfl) rfl rfl ⟨(blk_cell BK503.out 0).trans rfl, (blk_cell BK503.out 1).trans rfl, hx530_0⟩ (fun hHeld => ?_); refine with_tabW spec_l1Cur_order.tab20 spec_l1Cur_order.bits20 (fun HT_ HW_ => ?_)
                   generalize w43.drew = w46 at HO_8 HO_9 HO_504001 BK496 BK503 HI0 HK HB GG42 HQ48 hf42_0 hx42_0 hx530_0 hHeld ⊢
                   refine pure_ (i := 0) (N := some 87) (v := ?_) (a' := ?_) #[T,F,F,F,F,F,F,F,F,F] rfl rfl (any_of HT_.out (by kernel_rfl)) (fun _ _ _ h => h) (Or.inl ⟨by rfl, ?_⟩) ?_ ?_
                   rotate_left;·intro w';go_simp;with_reducible rfl
                   rotate_left;·simp only [Act.put, L_,M_,N_, i64_w, i32_w];rfl
                   refine pure_ (i := 2) (N := some 89) (v := ?_) (a' := ?_) #[T,F,T,F,F,F,F,F,F,F] rfl rfl (any_of HT_.out (by kernel_rfl)) (fun _ _ _ h => h) (Or.inl ⟨by rfl, ?_⟩) ?_ ?_
                   rotate_left;·intro w';go_simp;with_reducible rfl
                   rotate_left;·simp only [Act.put, L_,M_,N_, i64_w, i32_w];rfl
                   refine pure_ (i := 5) (N := some 92) (v := ?_) (a' := ?_) #[T,F,T,F,F,T,F,F,F,F] rfl rfl (any_of HT_.out (by kernel_rfl)) (fun _ _ _ h => h) (Or.inl ⟨by rfl, ?_⟩) ?_ ?_
                   rotate_left;·intro w';go_simp;with_reducible rfl
                   rotate_left;·simp only [Act.put, L_,M_,N_, i64_w, i32_w];rfl
                   refine pure_ (i := 6) (N := some 93) (v := ?_) (a' := ?_) #[T,F,T,F,F,T,T,F,F,F] rfl rfl (any_of HT_.out (by kernel_rfl)) (fun _ _ _ h => h) (Or.inl ⟨by rfl, ?_⟩) ?_ ?_
                   rotate_left;·intro w';go_simp;with_reducible rfl
                   rotate_left;·simp only [Act.put, L_,M_,N_, i64_w, i32_w];rfl
                   refine take_ (i := 1) (N := some 88) (v := ?_) (a' := ?_) #[T,T,T,F,F,T,T,F,F,F] rfl rfl (take_ofW HT_.out HW_.out (by kernel_rfl)) (fun _ _ _ h => h) (Or.inl ⟨by rfl, ?_⟩) hHeld ?_ ?_
                   rotate_left
                   ·rintro w' ⟨s0, s1, s2⟩
                    go_simp
                    with_reducible rfl
                   rotate_left;·simp only [Act.put, L_,M_,N_, i64_w, i32_w];rfl
                   refine pure_ (i := 3) (N := some 90) (v := ?_) (a' := ?_) #[T,T,T,T,F,T,T,F,F,F] rfl rfl (any_of HT_.out (by kernel_rfl)) (fun _ _ _ h => h) (Or.inl ⟨by rfl, ?_⟩) ?_ ?_
                   rotate_left;·intro w';go_simp;with_reducible rfl
                   rotate_left;·simp only [Act.put, L_,M_,N_, i64_w, i32_w];rfl
                   refine take_ (i := 4) (N := some 91) (v := ?_) (a' := ?_) #[T,T,T,T,T,T,T,F,F,F] rfl rfl (take_ofW HT_.out HW_.out (by kernel_rfl)) (fun _ _ _ h => h) (Or.inl ⟨by rfl, ?_⟩) hHeld ?_ ?_
                   rotate_left
                   ·rintro w' ⟨s0, s1, s2⟩
                    go_simp
                    with_reducible rfl
                   rotate_left;·simp only [Act.put, L_,M_,N_, i64_w, i32_w];rfl
                   refine pure_ (i := 7) (N := some 94) (v := ?_) (a' := ?_) #[T,T,T,T,T,T,T,T,F,F] rfl rfl (any_of HT_.out (by kernel_rfl)) (fun _ _ _ h => h) (Or.inl ⟨by rfl, ?_⟩) ?_ ?_
                   rotate_left;·intro w';go_simp;with_reducible rfl
                   rotate_left;·simp only [Act.put, L_,M_,N_, i64_w, i32_w];rfl
                   refine pure_ (i := 8) (N := some 95) (v := ?_) (a' := ?_) #[T,T,T,T,T,T,T,T,T,F] rfl rfl (any_of HT_.out (by kernel_rfl)) (fun _ _ _ h => h) (Or.inl ⟨by rfl, ?_⟩) ?_ ?_
                   rotate_left;·intro w';go_simp;with_reducible rfl
                   rotate_left;·simp only [Act.put, L_,M_,N_, i64_w, i32_w];rfl
                   refine last_ (i := 9) (N := none) #[T,T,T,T,T,T,T,T,T,T] rfl rfl (one_of HT_.out (by kernel_rfl)) (by decide) (fun K hK => ?_)
                   refine skip_ (w1 := ?_) (by rfl) rfl ?_ ?_
                   rotate_left
                   ·go_simp
                    rfl
                   refine hK.out _ _ ?_
                   clear hK K
                   refine done_ (done_of HT_.out (by kernel_rfl)) ?_
                   try go_wp2
                   go_roundg k3
                   case measure => have := HK1.out; have := HK2.out; have := HK3.out; omega
                   case rel => exact ⟨(x8_3), (x9_3), (wrap64 (x13_3 + 1)), (x1001_3), (x1002_3), (y531), (.slice (some ⟨go42, 0, none⟩) x504001_3.length co47), (by first | rfl | (simp; done) | (simp [*]; done)), H', ⟨by have := HK1.out; have := HK2.out; have := HK3.out; omega⟩, ⟨by (with_reducible repeat (first | apply Kd.R_alloc | apply Kd.R_drewN | apply Kd.R_drew)); exact Kd.R_mono (Kd.R_far (p := ⟨go42, (x12_2 : Int).toNat, none⟩) (Kd.R_mono HO_8.out (fun k_ hk => (⟨hk, fun e_ => hk.2 (by rw [e_]; rfl)⟩ : _ ∧ k_ ≠ go42))) (fun _ hk => hk.2) (.int .i64 (Go.bits .or .i64 (rd x504001_3 x12_2) (ji41)))) (fun _ hk => ⟨hk.1.1, hk.1.2⟩)⟩, ⟨by (with_reducible repeat (first | apply Kd.R_alloc | apply Kd.R_drewN | apply Kd.R_drew)); exact Kd.R_mono (Kd.R_far (p := ⟨go42, (x12_2 : Int).toNat, none⟩) (Kd.R_mono HO_9.out (fun k_ hk => (⟨hk, fun e_ => hk.2 (by rw [e_]; rfl)⟩ : _ ∧ k_ ≠ go42))) (fun _ hk => hk.2) (.int .i64 (Go.bits .or .i64 (rd x504001_3 x12_2) (ji41)))) (fun _ hk => ⟨hk.1.1, hk.1.2⟩)⟩, ⟨by (with_reducible repeat (first | apply Kd.R_alloc | apply Kd.R_drewN | apply Kd.R_drew)); exact HQ48.out⟩, ⟨by (with_reducible repeat (first | refine blk_drewN ?_ _ | refine blk_drew ?_ | refine blk_alloc ?_ _)); refine blk_far ?_ (by have h_ := Kd.R_ne HO_504001.out BK496.out (by decide); intro e_; exact h_ (by rw [e_]; rfl)) _; (with_reducible repeat (first | refine blk_drewN ?_ _ | refine blk_drew ?_ | refine blk_alloc ?_ _)); exact BK496.out⟩, ⟨by (with_reducible repeat (first | refine blk_drewN ?_ _ | refine blk_drew ?_ | refine blk_alloc ?_ _)); refine blk_far ?_ (by have h_ := Kd.R_ne HO_504001.out BK503.out (by decide); intro e_; exact h_ (by rw [e_]; rfl)) _; (with_reducible repeat (first | refine blk_drewN ?_ _ | refine blk_drew ?_ | refine blk_alloc ?_ _)); exact BK503.out⟩, ⟨by repeat (first | (with_reducible first | exact HI0.out | apply IsS72.alloc | apply IsS72.drewN | apply IsS72.drew | apply IsS72.set_1 | apply IsS72.set_2 | refine IsS72.far ?_ HN0_go42.out _ | refine IsS72.far ?_ NB0_496.out _ | refine IsS72.far ?_ NB0_503.out _) | exact HI0.out)⟩, ⟨by repeat (first | (with_reducible first | exact HK.out | apply KeepBut.set_ | apply keep_drewN | apply keep_drew | apply keep_alloc | refine keep_far ?_ GB42.out _ | refine keep_far ?_ GW496.out _ | refine keep_far ?_ GW503.out _) | exact HK.out)⟩, ⟨by repeat (first | (with_reducible first | exact HB.out | apply below_alloc | apply pw_below_drewN | apply below_drew1 | refine below_set ?_ (Nat.le_trans HL.out GB42.out) | refine below_set ?_ (IsS72.ge HI0.out) | refine below_set ?_ GE496.out | refine below_set ?_ GE503.out) | exact HB.out)⟩⟩
                  ·rw [if_neg c39] at H
                   exact absurd H (by simp)
                 ·rw [if_neg c38] at H
                  have c38b0 : decide ((rd x9_3 x12_2) < (rd x8_3 x13_3)) = false := decide_eq_false c38
                  clear c38
                  by_cases c49 : t504 = 0
                  ·rw [if_pos c49] at H
                   have c49b0 : (t504 == 0) = true := beq_iff_eq.mpr c49
                   have c49b1 : (t504 != 0) = false := bne_eq_false_iff_eq.mpr c49
                   clear c49
                   by_cases c50 : x12_2 < x13_3
                   ·rw [if_pos c50] at H
                    have c50b0 : decide (x12_2 < x13_3) = true := decide_eq_true c50
                    clear c50
                    replace H := Option.bind_eq_some_iff.mp H
                    obtain ⟨⟨t532, t533, t534⟩, A510, H⟩ := H
                    replace H : (if t532 = true then (if x12_2 < (x504001_3.length : Int) then (spec_l1Cur_order.l2 k3 t497 t504 x8_3 x9_3 x12_2 (wrap64 (x13_3 + 1)) s0_0 t533 t534 t497 (x504001_3.set (x12_2 : Int).toNat (Go.bits .or .i64 (rd x504001_3 x12_2) (shl .i64 1 x13_3)))) else (none)) else (spec_l1Cur_order.l2 k3 t497 t504 x8_3 x9_3 x12_2 (wrap64 (x13_3 + 1)) s0_0 t533 t534 t497 x504001_3)) = some (r1, r2, r3, r4) := H
                    have A51 := Aside0.mk A510
                    clear A510
                    by_cases c52 : t532 = true
                    ·subst c52
                     have H1 : (if x12_2 < (x504001_3.length : Int) then (spec_l1Cur_order.l2 k3 t497 t504 x8_3 x9_3 x12_2 (wrap64 (x13_3 + 1)) s0_0 t533 t534 t497 (x504001_3.set (x12_2 : Int).toNat (Go.bits .or .i64 (rd x504001_3 x12_2) (shl .i64 1 x13_3)))) else (none)) = some (r1, r2, r3, r4) := by rw [if_pos rfl] at H; exact H
                     clear H
                     have H := H1
                     clear H1
                     by_cases c53 : x12_2 < (x504001_3.length : Int)
                     ·rw [if_pos c53] at H
                      have c53b0 : decide (x12_2 < (x504001_3.length : Int)) = true := decide_eq_true c53
                      clear c53
                      have c54b0 := eq_true (of_decide_eq_true (by first | (with_reducible assumption) | assumption) : 0 ≤ x13_3)
                      obtain ⟨ji55, hji55⟩ : ∃ j_ : Int, (shl .i64 1 x13_3) = j_ := ⟨_, rfl⟩
                      replace H : (spec_l1Cur_order.l2 k3 t497 t504 x8_3 x9_3 x12_2 (wrap64 (x13_3 + 1)) s0_0 t533 t534 t497 (x504001_3.set (x12_2 : Int).toNat (Go.bits .or .i64 (rd x504001_3 x12_2) (ji55)))) = some (r1, r2, r3, r4) := by first | (rw [hji55] at H; exact H) | (simp only [hji55] at H ⊢; exact H)
                      (try rw [hji55] at A51)
                      have hji55_ : (IntKind.i64.wrap (1 * 2 ^ min x13_3.toNat 64)) = ji55 := hji55
                      have hji55z : x13_3 ≤ 64 → (IntKind.i64.wrap (1 * 2 ^ x13_3.toNat)) = ji55 := shl_small hji55
                      have hji55u : (IntKind.i64.wrap (2 ^ min x13_3.toNat 64)) = ji55 := by have h_ := hji55_; rw [Int.one_mul] at h_; exact h_
                      have hji55v : x13_3 ≤ 64 → (IntKind.i64.wrap (2 ^ x13_3.toNat)) = ji55 := fun hle_ => by have h_ := hji55z hle_; rw [Int.one_mul] at h_; exact h_
                      have hji55y : (wrap64 (1 * 2 ^ min x13_3.toNat 64)) = ji55 := (i64_w _).symm.trans hji55_
                      have hji55x : x13_3 ≤ 64 → (wrap64 (1 * 2 ^ x13_3.toNat)) = ji55 := fun h_ => (i64_w _).symm.trans (hji55z h_)
                      obtain ⟨y536, hy536⟩ : ∃ y_ : List Int, y_ = (x504001_3.set (x12_2 : Int).toNat (Go.bits .or .i64 (rd x504001_3 x12_2) (ji55))) := ⟨_, rfl⟩
                      replace H : (spec_l1Cur_order.l2 k3 t497 t504 x8_3 x9_3 x12_2 (wrap64 (x13_3 + 1)) s0_0 t533 t534 t497 y536) = some (r1, r2, r3, r4) := by first | (rw [hy536]; with_reducible exact H) | (have H2_ := (Option.bind_some _ _).symm.trans H; rw [hy536]; with_reducible exact H2_) | (have H2_ := (Option.bind_some _ _).symm.trans H; with_reducible exact H2_) | with_reducible exact H | (rw [hy536]; exact H) | exact H
                      have Ny536 := Aside0.mk hy536
                      clear hy536
                      have H' := Aside0.mk H
                      clear H
                      try go_wp2
                      have n0_ := Aside0.mk (Kd.R_drew HO_8.out)
                      have n1_ := Aside0.mk (Kd.R_drew HO_9.out)
                      have n2_ := Aside0.mk (Kd.R_drew HO_504001.out)
                      have n3_ := Aside0.mk (blk_drew BK496.out)
                      have n4_ := Aside0.mk (blk_drew BK503.out)
                      have n5_ := Aside0.mk (IsS72.drew HI0.out)
                      have n6_ := Aside0.mk (keep_drew HK.out)
                      have n7_ := Aside0.mk (below_drew1 HB.out)
                      clear HO_8
                      clear HO_9
                      clear HO_504001
                      clear BK496
                      clear BK503
                      clear HI0
                      clear HK
                      clear HB
                      have HO_8 := n0_
                      have HO_9 := n1_
                      have HO_504001 := n2_
                      have BK496 := n3_
                      have BK503 := n4_
                      have HI0 := n5_
                      have HK := n6_
                      have HB := n7_
                      clear n0_ n1_ n2_ n3_ n4_ n5_ n6_ n7_
                      obtain ⟨Ao58, co58, eo58⟩ := Kd.R_slice HO_9.out
                      (first | subst eo58 | (injection eo58 with f1_ f2_ f3_; have f4_ := f1_.symm; have f5_ := f3_.symm; clear f1_ f2_ f3_; subst f4_; subst f5_))
                      have p528 : 0 ≤ (x12_2 : Int) := of_decide_eq_true (by first | (with_reducible assumption) | assumption)
                      have q528 : x12_2 < (x9_3.length : Int) := of_decide_eq_true (by first | (with_reducible assumption) | assumption)
                      obtain ⟨ad528, e528, hx528_0⟩ := Kd.at_int (Kd.R_reads' HO_9.out).2.2 x12_2 p528 q528
                      cases e528
                      replace p528 := eq_true p528
                      replace q528 := eq_true q528
                      obtain ⟨Ao59, co59, eo59⟩ := Kd.R_slice HO_8.out
                      (first | subst eo59 | (injection eo59 with f1_ f2_ f3_; have f4_ := f1_.symm; have f5_ := f3_.symm; clear f1_ f2_ f3_; subst f4_; subst f5_))
                      have p529 : 0 ≤ (x13_3 : Int) := of_decide_eq_true (by first | (with_reducible assumption) | assumption)
                      have q529 : x13_3 < (x8_3.length : Int) := of_decide_eq_true (by first | (with_reducible assumption) | assumption)
                      obtain ⟨ad529, e529, hx529_0⟩ := Kd.at_int (Kd.R_reads' HO_8.out).2.2 x13_3 p529 q529
                      cases e529
                      replace p529 := eq_true p529
                      replace q529 := eq_true q529
                      refine start_ (n := 26) (S := fun w' => w'.cell? (ad528.add (x12_2).toNat) = some (.int .i64 (rd x9_3 x12_2)) ∧ w'.cell? (ad529.add (x13_3).toNat) = some (.int .i64 (rd x8_3 x13_3))) (ds := []) #[F,F,F,F,F,F,F,F,F,F,F,F,F,F,F,F,F,F,F,F,F,F,F,F,F,F] (by kernel_rfl) rfl rfl ⟨hx528_0, hx529_0⟩ (fun hHeld => ?_); refine with_tabW spec_l1Cur_order.tab19 spec_l1Cur_order.bits19 (fun HT_ HW_ => ?_)
                      generalize wr.drew = w57 at HO_8 HO_9 HO_504001 BK496 BK503 HI0 HK HB hx528_0 hx529_0 hHeld ⊢
                      refine pure_ (i := 0) (N := some 61) (v := ?_) (a' := ?_) #[T,F,F,F,F,F,F,F,F,F,F,F,F,F,F,F,F,F,F,F,F,F,F,F,F,F] rfl rfl (any_of HT_.out (by kernel_rfl)) (fun _ _ _ h => h) (Or.inl ⟨by rfl, ?_⟩) ?_ ?_
                      rotate_left;·intro w';go_simp;with_reducible rfl
                      rotate_left;·simp only [Act.put, L_,M_,N_, i64_w, i32_w];rfl
                      refine pure_ (i := 1) (N := some 62) (v := ?_) (a' := ?_) #[T,T,F,F,F,F,F,F,F,F,F,F,F,F,F,F,F,F,F,F,F,F,F,F,F,F] rfl rfl (any_of HT_.out (by kernel_rfl)) (fun _ _ _ h => h) (Or.inl ⟨by rfl, ?_⟩) ?_ ?_
                      rotate_left;·intro w';go_simp;with_reducible rfl
                      rotate_left;·simp only [Act.put, L_,M_,N_, i64_w, i32_w];rfl
                      refine pure_ (i := 2) (N := some 63) (v := ?_) (a' := ?_) #[T,T,T,F,F,F,F,F,F,F,F,F,F,F,F,F,F,F,F,F,F,F,F,F,F,F] rfl rfl (any_of HT_.out (by kernel_rfl)) (fun _ _ _ h => h) (Or.inl ⟨by rfl, ?_⟩) ?_ ?_
                      rotate_left;·intro w';go_simp;with_reducible rfl
                      rotate_left;·simp only [Act.put, L_,M_,N_, i64_w, i32_w];rfl
                      refine pure_ (i := 3) (N := some 64) (v := ?_) (a' := ?_) #[T,T,T,T,F,F,F,F,F,F,F,F,F,F,F,F,F,F,F,F,F,F,F,F,F,F] rfl rfl (any_of HT_.out (by kernel_rfl)) (fun _ _ _ h => h) (Or.inl ⟨by rfl, ?_⟩) ?_ ?_
                      rotate_left;·intro w';go_simp;with_reducible rfl
                      rotate_left;·simp only [Act.put, L_,M_,N_, i64_w, i32_w];rfl
                      refine pure_ (i := 4) (N := some 65) (v := ?_) (a' := ?_) #[T,T,T,T,T,F,F,F,F,F,F,F,F,F,F,F,F,F,F,F,F,F,F,F,F,F] rfl rfl (any_of HT_.out (by kernel_rfl)) (fun _ _ _ h => h) (Or.inl ⟨by rfl, ?_⟩) ?_ ?_
                      rotate_left;·intro w';go_simp;with_reducible rfl
                      rotate_left;·simp only [Act.put, L_,M_,N_, i64_w, i32_w];rfl
                      refine pure_ (i := 5) (N := some 66) (v := ?_) (a' := ?_) #[T,T,T,T,T,T,F,F,F,F,F,F,F,F,F,F,F,F,F,F,F,F,F,F,F,F] rfl rfl (any_of HT_.out (by kernel_rfl)) (fun _ _ _ h => h) (Or.inl ⟨by rfl, ?_⟩) ?_ ?_
                      rotate_left;·intro w';go_simp;with_reducible rfl
                      rotate_left;·simp only [Act.put, L_,M_,N_, i64_w, i32_w];rfl
                      refine pure_ (i := 7) (N := some 68) (v := ?_) (a' := ?_) #[T,T,T,T,T,T,F,T,F,F,F,F,F,F,F,F,F,F,F,F,F,F,F,F,F,F] rfl rfl (any_of HT_.out (by kernel_rfl)) (fun _ _ _ h => h) (Or.inl ⟨by rfl, ?_⟩) ?_ ?_
                      rotate_left;·intro w';go_simp;with_reducible rfl
                      rotate_left;·simp only [Act.put, L_,M_,N_, i64_w, i32_w];rfl
                      refine pure_ (i := 8) (N := some 69) (v := ?_) (a' := ?_) #[T,T,T,T,T,T,F,T,T,F,F,F,F,F,F,F,F,F,F,F,F,F,F,F,F,F] rfl rfl (any_of HT_.out (by kernel_rfl)) (fun _ _ _ h => h) (Or.inl ⟨by rfl, ?_⟩) ?_ ?_
                      rotate_left;·intro w';go_simp;with_reducible rfl
                      rotate_left;·simp only [Act.put, L_,M_,N_, i64_w, i32_w];rfl
                      refine pure_ (i := 9) (N := some 70) (v := ?_) (a' := ?_) #[T,T,T,T,T,T,F,T,T,T,F,F,F,F,F,F,F,F,F,F,F,F,F,F,F,F] rfl rfl (any_of HT_.out (by kernel_rfl)) (fun _ _ _ h => h) (Or.inl ⟨by rfl, ?_⟩) ?_ ?_
                      rotate_left;·intro w';go_simp;with_reducible rfl
                      rotate_left;·simp only [Act.put, L_,M_,N_, i64_w, i32_w];rfl
                      refine take_ (i := 6) (N := some 67) (v := ?_) (a' := ?_) #[T,T,T,T,T,T,T,T,T,T,F,F,F,F,F,F,F,F,F,F,F,F,F,F,F,F] rfl rfl (take_ofW HT_.out HW_.out (by kernel_rfl)) (fun _ _ _ h => h) (Or.inl ⟨by rfl, ?_⟩) hHeld ?_ ?_
                      rotate_left
                      ·rintro w' ⟨s0, s1⟩
                       go_simp
                       with_reducible rfl
                      rotate_left;·simp only [Act.put, L_,M_,N_, i64_w, i32_w];rfl
                      refine take_ (i := 10) (N := some 71) (v := ?_) (a' := ?_) #[T,T,T,T,T,T,T,T,T,T,T,F,F,F,F,F,F,F,F,F,F,F,F,F,F,F] rfl rfl (take_ofW HT_.out HW_.out (by kernel_rfl)) (fun _ _ _ h => h) (Or.inl ⟨by rfl, ?_⟩) hHeld ?_ ?_
                      rotate_left
                      ·rintro w' ⟨s0, s1⟩
                       go_simp
                       with_reducible rfl
                      rotate_left;·simp only [Act.put, L_,M_,N_, i64_w, i32_w];rfl
                      refine pure_ (i := 11) (N := some 72) (v := ?_) (a' := ?_) #[T,T,T,T,T,T,T,T,T,T,T,T,F,F,F,F,F,F,F,F,F,F,F,F,F,F] rfl rfl (any_of HT_.out (by kernel_rfl)) (fun _ _ _ h => h) (Or.inl ⟨by rfl, ?_⟩) ?_ ?_
                      rotate_left;·intro w';go_simp;with_reducible rfl
                      rotate_left;·simp only [Act.put, L_,M_,N_, i64_w, i32_w];rfl
                      refine pure_ (i := 12) (N := some 73) (v := ?_) (a' := ?_) #[T,T,T,T,T,T,T,T,T,T,T,T,T,F,F,F,F,F,F,F,F,F,F,F,F,F] rfl rfl (any_of HT_.out (by kernel_rfl)) (fun _ _ _ h => h) (Or.inl ⟨by rfl, ?_⟩) ?_ ?_
                      rotate_left;·intro w';go_simp;with_reducible rfl
                      rotate_left;·simp only [Act.put, L_,M_,N_, i64_w, i32_w];rfl
                      refine pure_ (i := 13) (N := some 74) (v := ?_) (a' := ?_) #[T,T,T,T,T,T,T,T,T,T,T,T,T,T,F,F,F,F,F,F,F,F,F,F,F,F] rfl rfl (any_of HT_.out (by kernel_rfl)) (fun _ _ _ h => h) (Or.inl ⟨by rfl, ?_⟩) ?_ ?_
                      rotate_left;·intro w';go_simp;with_reducible rfl
                      rotate_left;·simp only [Act.put, L_,M_,N_, i64_w, i32_w];rfl
                      refine pure_ (i := 14) (N := some 75) (v := ?_) (a' := ?_) #[T,T,T,T,T,T,T,T,T,T,T,T,T,T,T,F,F,F,F,F,F,F,F,F,F,F] rfl rfl (any_of HT_.out (by kernel_rfl)) (fun _ _ _ h => h) (Or.inl ⟨by rfl, ?_⟩) ?_ ?_
                      rotate_left;·intro w';go_simp;with_reducible rfl
                      rotate_left;·simp only [Act.put, L_,M_,N_, i64_w, i32_w];rfl
                      refine pure_ (i := 15) (N := some 76) (v := ?_) (a' := ?_) #[T,T,T,T,T,T,T,T,T,T,T,T,T,T,T,T,F,F,F,F,F,F,F,F,F,F] rfl rfl (any_of HT_.out (by kernel_rfl)) (fun _ _ _ h => h) (Or.inl ⟨by rfl, ?_⟩) ?_ ?_
                      rotate_left;·intro w';go_simp;with_reducible rfl
                      rotate_left;·simp only [Act.put, L_,M_,N_, i64_w, i32_w];rfl
                      refine pure_ (i := 16) (N := some 77) (v := ?_) (a' := ?_) #[T,T,T,T,T,T,T,T,T,T,T,T,T,T,T,T,T,F,F,F,F,F,F,F,F,F] rfl rfl (any_of HT_.out (by kernel_rfl)) (fun _ _ _ h => h) (Or.inl ⟨by rfl, ?_⟩) ?_ ?_
                      rotate_left;·intro w';go_simp;with_reducible rfl
                      rotate_left;·simp only [Act.put, L_,M_,N_, i64_w, i32_w];rfl
                      refine pure_ (i := 17) (N := some 78) (v := ?_) (a' := ?_) #[T,T,T,T,T,T,T,T,T,T,T,T,T,T,T,T,T,T,F,F,F,F,F,F,F,F] rfl rfl (any_of HT_.out (by kernel_rfl)) (fun _ _ _ h => h) (Or.inl ⟨by rfl, ?_⟩) ?_ ?_
                      rotate_left;·intro w';go_simp;with_reducible rfl
                      rotate_left;·simp only [Act.put, L_,M_,N_, i64_w, i32_w];rfl
                      refine pure_ (i := 18) (N := some 79) (v := ?_) (a' := ?_) #[T,T,T,T,T,T,T,T,T,T,T,T,T,T,T,T,T,T,T,F,F,F,F,F,F,F] rfl rfl (any_of HT_.out (by kernel_rfl)) (fun _ _ _ h => h) (Or.inl ⟨by rfl, ?_⟩) ?_ ?_
                      rotate_left;·intro w';go_simp;with_reducible rfl
                      rotate_left;·simp only [Act.put, L_,M_,N_, i64_w, i32_w];rfl
                      refine pure_ (i := 19) (N := some 80) (v := ?_) (a' := ?_) #[T,T,T,T,T,T,T,T,T,T,T,T,T,T,T,T,T,T,T,T,F,F,F,F,F,F] rfl rfl (any_of HT_.out (by kernel_rfl)) (fun _ _ _ h => h) (Or.inl ⟨by rfl, ?_⟩) ?_ ?_
                      rotate_left;·intro w';go_simp;with_reducible rfl
                      rotate_left;·simp only [Act.put, L_,M_,N_, i64_w, i32_w];rfl
                      refine pure_ (i := 20) (N := some 81) (v := ?_) (a' := ?_) #[T,T,T,T,T,T,T,T,T,T,T,T,T,T,T,T,T,T,T,T,T,F,F,F,F,F] rfl rfl (any_of HT_.out (by kernel_rfl)) (fun _ _ _ h => h) (Or.inl ⟨by rfl, ?_⟩) ?_ ?_
                      rotate_left;·intro w';go_simp;with_reducible rfl
                      rotate_left;·simp only [Act.put, L_,M_,N_, i64_w, i32_w];rfl
                      refine pure_ (i := 21) (N := some 82) (v := ?_) (a' := ?_) #[T,T,T,T,T,T,T,T,T,T,T,T,T,T,T,T,T,T,T,T,T,T,F,F,F,F] rfl rfl (any_of HT_.out (by kernel_rfl)) (fun _ _ _ h => h) (Or.inl ⟨by rfl, ?_⟩) ?_ ?_
                      rotate_left;·intro w';go_simp;with_reducible rfl
                      rotate_left;·simp only [Act.put, L_,M_,N_, i64_w, i32_w];rfl
                      refine pure_ (i := 22) (N := some 83) (v := ?_) (a' := ?_) #[T,T,T,T,T,T,T,T,T,T,T,T,T,T,T,T,T,T,T,T,T,T,T,F,F,F] rfl rfl (any_of HT_.out (by kernel_rfl)) (fun _ _ _ h => h) (Or.inl ⟨by rfl, ?_⟩) ?_ ?_
                      rotate_left;·intro w';go_simp;with_reducible rfl
                      rotate_left;·simp only [Act.put, L_,M_,N_, i64_w, i32_w];rfl
                      refine one_ (i := 23) (N := some 84) #[T,T,T,T,T,T,T,T,T,T,T,T,T,T,T,T,T,T,T,T,T,T,T,T,F,F] rfl rfl (one_of HT_.out (by kernel_rfl)) (by decide) (fun K hK => ?_)
                      refine goes_ Tryd.func109 (by kernel_rfl) rfl #[.pointer (some ⟨g, 0, none⟩), .int .i64 3] (by rfl) rfl rfl (by (try simp only [List.map_toArray, List.map_cons, List.map_nil]); first | done | rfl | (simp only [List.length_drop, List.length_take]; rfl)) ?_
                      with_reducible refine (spec_l1Cur_one.calls g s0_0 x1001_3 x1002_3 3 true t533 t534 w0 _ ?side1 ?side2 A51.out).mono ?_
                      (case side1 => repeat (first | (with_reducible first | exact HI0.out | apply IsS72.alloc | apply IsS72.drewN | apply IsS72.drew | apply IsS72.set_1 | apply IsS72.set_2 | refine IsS72.far ?_ NB0_496.out _ | refine IsS72.far ?_ NB0_503.out _) | exact HI0.out))
                      (case side2 => repeat (first | (with_reducible first | exact HB.out | apply below_alloc | apply pw_below_drewN | apply below_drew1 | refine below_set ?_ (IsS72.ge HI0.out) | refine below_set ?_ GE496.out | refine below_set ?_ GE503.out) | exact HB.out))
                      rintro e w60 ⟨rfl, hi, hb, hk⟩
                      have HS0_ := keep_cell hk (hHeld.1) (by first | (rw [add_block]; exact Kd.own_blk (IsS72.own_ne HI0.out HO_9.out (by decide))) | (show (Addr.add _ _).block ≠ _; rw [add_block]; exact Kd.own_blk (IsS72.own_ne HI0.out HO_9.out (by decide))) | exact Kd.own_blk (IsS72.own_ne HI0.out HO_9.out (by decide)))
                      have HS1_ := keep_cell hk (hHeld.2) (by first | (rw [add_block]; exact Kd.own_blk (IsS72.own_ne HI0.out HO_8.out (by decide))) | (show (Addr.add _ _).block ≠ _; rw [add_block]; exact Kd.own_blk (IsS72.own_ne HI0.out HO_8.out (by decide))) | exact Kd.own_blk (IsS72.own_ne HI0.out HO_8.out (by decide)))
                      refine ⟨_, rfl, ?_⟩
                      have n0_ := Aside0.mk (Kd.R_mono (Kd.R_keep (IsS72.apart (show IsS72 w0 _ g s0_0 x1001_3 x1002_3 from by repeat (first | (with_reducible first | exact HI0.out | apply IsS72.alloc | apply IsS72.drewN | apply IsS72.drew | apply IsS72.set_1 | apply IsS72.set_2 | refine IsS72.far ?_ NB0_496.out _ | refine IsS72.far ?_ NB0_503.out _) | exact HI0.out)) (by (with_reducible repeat (first | apply Kd.R_alloc | apply Kd.R_drewN | apply Kd.R_drew)); exact HO_8.out) (by decide)) hk (fun _ h => h.2)) (fun _ h => h.1))
                      have n1_ := Aside0.mk (Kd.R_mono (Kd.R_keep (IsS72.apart (show IsS72 w0 _ g s0_0 x1001_3 x1002_3 from by repeat (first | (with_reducible first | exact HI0.out | apply IsS72.alloc | apply IsS72.drewN | apply IsS72.drew | apply IsS72.set_1 | apply IsS72.set_2 | refine IsS72.far ?_ NB0_496.out _ | refine IsS72.far ?_ NB0_503.out _) | exact HI0.out)) (by (with_reducible repeat (first | apply Kd.R_alloc | apply Kd.R_drewN | apply Kd.R_drew)); exact HO_9.out) (by decide)) hk (fun _ h => h.2)) (fun _ h => h.1))
                      have n2_ := Aside0.mk (Kd.R_mono (Kd.R_keep (IsS72.apart (show IsS72 w0 _ g s0_0 x1001_3 x1002_3 from by repeat (first | (with_reducible first | exact HI0.out | apply IsS72.alloc | apply IsS72.drewN | apply IsS72.drew | apply IsS72.set_1 | apply IsS72.set_2 | refine IsS72.far ?_ NB0_496.out _ | refine IsS72.far ?_ NB0_503.out _) | exact HI0.out)) (by (with_reducible repeat (first | apply Kd.R_alloc | apply Kd.R_drewN | apply Kd.R_drew)); exact HO_504001.out) (by decide)) hk (fun _ h => h.2)) (fun _ h => h.1))
                      have n3_ := Aside0.mk (KeepBut.blk hk (g' := gb496) (o := .cells #[.int .i64 0, .slice none 0 0] 26 (0, 0)) (by (with_reducible repeat (first | refine blk_drewN ?_ _ | refine blk_drew ?_ | refine blk_alloc ?_ _)); exact BK496.out) NB496_0.out (by simp))
                      have n4_ := Aside0.mk (KeepBut.blk hk (g' := gb503) (o := .cells #[.int .i64 t497, u504001] 26 (0, 0)) (by (with_reducible repeat (first | refine blk_drewN ?_ _ | refine blk_drew ?_ | refine blk_alloc ?_ _)); exact BK503.out) NB503_0.out (by simp))
                      have n5_ := Aside0.mk (KeepBut.trans (by repeat (first | (with_reducible first | exact HK.out | apply KeepBut.set_ | apply keep_drewN | apply keep_drew | apply keep_alloc | refine keep_far ?_ GW496.out _ | refine keep_far ?_ GW503.out _) | exact HK.out)) hk (.inl rfl))
                      have n6_ := Aside0.mk (hb)
                      have n7_ := Aside0.mk (hi)
                      clear HO_8
                      clear HO_9
                      clear HO_504001
                      clear BK496
                      clear BK503
                      clear HK
                      clear HB
                      clear HI0
                      have HO_8 := n0_
                      have HO_9 := n1_
                      have HO_504001 := n2_
                      have BK496 := n3_
                      have BK503 := n4_
                      have HK := n5_
                      have HB := n6_
                      have HI0 := n7_
                      clear n0_ n1_ n2_ n3_ n4_ n5_ n6_ n7_
                      (try clear hb)
                      (try clear hb2)
                      (try clear hk)
                      (try clear hi)
                      refine hK.out _ _ ⟨HS0_, HS1_⟩ (fun hHeld => ?_)
                      clear hK K
                      refine norm_ (a' := ?_) ?_ ?_
                      rotate_left
                      ·show Act.put _ (some 84) _ = _
                       simp only [Act.put, L_,M_,N_, i64_w, i32_w]
                       rfl
                      refine pure_ (i := 24) (N := some 85) (v := ?_) (a' := ?_) #[T,T,T,T,T,T,T,T,T,T,T,T,T,T,T,T,T,T,T,T,T,T,T,T,T,F] rfl rfl (any_of HT_.out (by kernel_rfl)) (fun _ _ _ h => h) (Or.inl ⟨by rfl, ?_⟩) ?_ ?_
                      rotate_left;·intro w';go_simp;with_reducible rfl
                      rotate_left;·simp only [Act.put, L_,M_,N_, i64_w, i32_w];rfl
                      refine pure_ (i := 25) (N := some 86) (v := ?_) (a' := ?_) #[T,T,T,T,T,T,T,T,T,T,T,T,T,T,T,T,T,T,T,T,T,T,T,T,T,T] rfl rfl (any_of HT_.out (by kernel_rfl)) (fun _ _ _ h => h) (Or.inl ⟨by rfl, ?_⟩) ?_ ?_
                      rotate_left;·intro w';go_simp;with_reducible rfl
                      rotate_left;·simp only [Act.put, L_,M_,N_, i64_w, i32_w];rfl
                      refine done_ (done_of HT_.out (by kernel_rfl)) ?_
                      try go_wp2
                      have n0_ := Aside0.mk (Kd.R_drew HO_8.out)
                      have n1_ := Aside0.mk (Kd.R_drew HO_9.out)
                      have n2_ := Aside0.mk (Kd.R_drew HO_504001.out)
                      have n3_ := Aside0.mk (blk_drew BK496.out)
                      have n4_ := Aside0.mk (blk_drew BK503.out)
                      have n5_ := Aside0.mk (IsS72.drew HI0.out)
                      have n6_ := Aside0.mk (keep_drew HK.out)
                      have n7_ := Aside0.mk (below_drew1 HB.out)
                      clear HO_8
                      clear HO_9
                      clear HO_504001
                      clear BK496
                      clear BK503
                      clear HI0
                      clear HK
                      clear HB
                      have HO_8 := n0_
                      have HO_9 := n1_
                      have HO_504001 := n2_
                      have BK496 := n3_
                      have BK503 := n4_
                      have HI0 := n5_
                      have HK := n6_
                      have HB := n7_
                      clear n0_ n1_ n2_ n3_ n4_ n5_ n6_ n7_
                      obtain ⟨Ao62, co62, eo62⟩ := Kd.R_slice HO_504001.out
                      (first | subst eo62 | (injection eo62 with f1_ f2_ f3_; have f4_ := f1_.symm; have f5_ := f3_.symm; clear f1_ f2_ f3_; subst f4_; subst f5_))
                      have p535 : 0 ≤ (x12_2 : Int) := of_decide_eq_true (by first | (with_reducible assumption) | assumption)
                      have q535 : x12_2 < (x504001_3.length : Int) := of_decide_eq_true (by first | (with_reducible assumption) | assumption)
                      obtain ⟨ad535, e535, hx535_0⟩ := Kd.at_int (Kd.R_reads' HO_504001.out).2.2 x12_2 p535 q535
                      cases e535
                      replace p535 := eq_true p535
                      replace q535 := eq_true q535
                      have p56 : 0 ≤ (x12_2 : Int) := of_decide_eq_true (by first | (with_reducible assumption) | assumption)
                      have q56 : (x12_2 : Int) < ((x504001_3.length : Int) : Int) := of_decide_eq_true (by first | (with_reducible assumption) | assumption)
                      obtain ⟨go56, co56, eo56, gb56, gl56, cl56, HG56⟩ := Kd.R_form HO_504001.out (by omega)
                      (first | cases eo56 | (injection eo56 with ea_ en_ ec_; (first | subst ea_ | (injection ea_ with ea_; subst ea_)); subst ec_; clear en_))
                      have GB56 := Aside0.mk gb56
                      have GG56 := Aside0.mk HG56
                      clear gb56 gl56 HG56
                      (first | simp only [add_plain] at hx535_0 | skip)
                      obtain ⟨hx56_0, hf56_0⟩ := Kd.R_celln 0 HO_504001.out (x12_2 : Int) p56 q56
                      replace p56 := eq_true p56
                      replace q56 := eq_true q56
                      have HN0_go56 := Aside0.mk (show g ≠ go56 from by have h_ := IsS72.own_ne HI0.out HO_504001.out (by decide); intro e_; exact h_ (by rw [e_]; rfl))
                      have HP63 := Kd.R_putn HO_504001.out (x12_2 : Int) (Go.bits .or .i64 (rd x504001_3 x12_2) (ji55))
                      rw [← Ny536.out] at HP63
                      have HQ63 := Aside0.mk HP63
                      clear HP63
                      refine start_ (n := 10) (S := fun w' => w'.cell? ⟨gb503, 0, none⟩ = some (.int .i64 t497) ∧ w'.cell? ⟨gb503, 1, none⟩ = some (.slice (some ⟨go56, 0, none⟩) x504001_3.length co62) ∧ w'.cell? ⟨go56, (x12_2).toNat, none⟩ = some (.int .i64 (rd x504001_3 x12_2))) (ds := [9]) #[F,F,F,F,F,F,F,F,F,F] (by kernel_rfl) rfl rfl ⟨(blk_cell BK503.out 0).trans rfl, (blk_cell BK503.out 1).trans rfl, hx535_0⟩ (fun hHeld => ?_); refine with_tabW spec_l1Cur_order.tab20 spec_l1Cur_order.bits20 (fun HT_ HW_ => ?_)
                      generalize w60.drew = w61 at HO_8 HO_9 HO_504001 BK496 BK503 HI0 HK HB GG56 HQ63 hf56_0 hx535_0 hx56_0 hHeld ⊢
                      refine pure_ (i := 0) (N := some 87) (v := ?_) (a' := ?_) #[T,F,F,F,F,F,F,F,F,F] rfl rfl (any_of HT_.out (by kernel_rfl)) (fun _ _ _ h => h) (Or.inl ⟨by rfl, ?_⟩) ?_ ?_
                      rotate_left;·intro w';go_simp;with_reducible rfl
                      rotate_left;·simp only [Act.put, L_,M_,N_, i64_w, i32_w];rfl
                      refine pure_ (i := 2) (N := some 89) (v := ?_) (a' := ?_) #[T,F,T,F,F,F,F,F,F,F] rfl rfl (any_of HT_.out (by kernel_rfl)) (fun _ _ _ h => h) (Or.inl ⟨by rfl, ?_⟩) ?_ ?_
                      rotate_left;·intro w';go_simp;with_reducible rfl
                      rotate_left;·simp only [Act.put, L_,M_,N_, i64_w, i32_w];rfl
                      refine pure_ (i := 5) (N := some 92) (v := ?_) (a' := ?_) #[T,F,T,F,F,T,F,F,F,F] rfl rfl (any_of HT_.out (by kernel_rfl)) (fun _ _ _ h => h) (Or.inl ⟨by rfl, ?_⟩) ?_ ?_
                      rotate_left;·intro w';go_simp;with_reducible rfl
                      rotate_left;·simp only [Act.put, L_,M_,N_, i64_w, i32_w];rfl
                      refine pure_ (i := 6) (N := some 93) (v := ?_) (a' := ?_) #[T,F,T,F,F,T,T,F,F,F] rfl rfl (any_of HT_.out (by kernel_rfl)) (fun _ _ _ h => h) (Or.inl ⟨by rfl, ?_⟩) ?_ ?_
                      rotate_left;·intro w';go_simp;with_reducible rfl
                      rotate_left;·simp only [Act.put, L_,M_,N_, i64_w, i32_w];rfl
                      refine take_ (i := 1) (N := some 88) (v := ?_) (a' := ?_) #[T,T,T,F,F,T,T,F,F,F] rfl rfl (take_ofW HT_.out HW_.out (by kernel_rfl)) (fun _ _ _ h => h) (Or.inl ⟨by rfl, ?_⟩) hHeld ?_ ?_
                      rotate_left
                      ·rintro w' ⟨s0, s1, s2⟩
                       go_simp
                       with_reducible rfl
                      rotate_left;·simp only [Act.put, L_,M_,N_, i64_w, i32_w];rfl
                      refine pure_ (i := 3) (N := some 90) (v := ?_) (a' := ?_) #[T,T,T,T,F,T,T,F,F,F] rfl rfl (any_of HT_.out (by kernel_rfl)) (fun _ _ _ h => h) (Or.inl ⟨by rfl, ?_⟩) ?_ ?_
                      rotate_left;·intro w';go_simp;with_reducible rfl
                      rotate_left;·simp only [Act.put, L_,M_,N_, i64_w, i32_w];rfl
                      refine take_ (i := 4) (N := some 91) (v := ?_) (a' := ?_) #[T,T,T,T,T,T,T,F,F,F] rfl rfl (take_ofW HT_.out HW_.out (by kernel_rfl)) (fun _ _ _ h => h) (Or.inl ⟨by rfl, ?_⟩) hHeld ?_ ?_
                      rotate_left
                      ·rintro w' ⟨s0, s1, s2⟩
                       go_simp
                       with_reducible rfl
                      rotate_left;·simp only [Act.put, L_,M_,N_, i64_w, i32_w];rfl
                      refine pure_ (i := 7) (N := some 94) (v := ?_) (a' := ?_) #[T,T,T,T,T,T,T,T,F,F] rfl rfl (any_of HT_.out (by kernel_rfl)) (fun _ _ _ h => h) (Or.inl ⟨by rfl, ?_⟩) ?_ ?_
                      rotate_left;·intro w';go_simp;with_reducible rfl
                      rotate_left;·simp only [Act.put, L_,M_,N_, i64_w, i32_w];rfl
                      refine pure_ (i := 8) (N := some 95) (v := ?_) (a' := ?_) #[T,T,T,T,T,T,T,T,T,F] rfl rfl (any_of HT_.out (by kernel_rfl)) (fun _ _ _ h => h) (Or.inl ⟨by rfl, ?_⟩) ?_ ?_
                      rotate_left;·intro w';go_simp;with_reducible rfl
                      rotate_left;·simp only [Act.put, L_,M_,N_, i64_w, i32_w];rfl
                      refine last_ (i := 9) (N := none) #[T,T,T,T,T,T,T,T,T,T] rfl rfl (one_of HT_.out (by kernel_rfl)) (by decide) (fun K hK => ?_)
                      refine skip_ (w1 := ?_) (by rfl) rfl ?_ ?_
                      rotate_left
                      ·go_simp
                       rfl
                      refine hK.out _ _ ?_
                      clear hK K
                      refine done_ (done_of HT_.out (by kernel_rfl)) ?_
                      try go_wp2
                      go_roundg k3
                      case measure => have := HK1.out; have := HK2.out; have := HK3.out; omega
                      case rel => exact ⟨(x8_3), (x9_3), (wrap64 (x13_3 + 1)), (t533), (t534), (y536), (.slice (some ⟨go56, 0, none⟩) x504001_3.length co62), (by first | rfl | (simp; done) | (simp [*]; done)), H', ⟨by have := HK1.out; have := HK2.out; have := HK3.out; omega⟩, ⟨by (with_reducible repeat (first | apply Kd.R_alloc | apply Kd.R_drewN | apply Kd.R_drew)); exact Kd.R_mono (Kd.R_far (p := ⟨go56, (x12_2 : Int).toNat, none⟩) (Kd.R_mono HO_8.out (fun k_ hk => (⟨hk, fun e_ => hk.2 (by rw [e_]; rfl)⟩ : _ ∧ k_ ≠ go56))) (fun _ hk => hk.2) (.int .i64 (Go.bits .or .i64 (rd x504001_3 x12_2) (ji55)))) (fun _ hk => ⟨hk.1.1, hk.1.2⟩)⟩, ⟨by (with_reducible repeat (first | apply Kd.R_alloc | apply Kd.R_drewN | apply Kd.R_drew)); exact Kd.R_mono (Kd.R_far (p := ⟨go56, (x12_2 : Int).toNat, none⟩) (Kd.R_mono HO_9.out (fun k_ hk => (⟨hk, fun e_ => hk.2 (by rw [e_]; rfl)⟩ : _ ∧ k_ ≠ go56))) (fun _ hk => hk.2) (.int .i64 (Go.bits .or .i64 (rd x504001_3 x12_2) (ji55)))) (fun _ hk => ⟨hk.1.1, hk.1.2⟩)⟩, ⟨by (with_reducible repeat (first | apply Kd.R_alloc | apply Kd.R_drewN | apply Kd.R_drew)); exact HQ63.out⟩, ⟨by (with_reducible repeat (first | refine blk_drewN ?_ _ | refine blk_drew ?_ | refine blk_alloc ?_ _)); refine blk_far ?_ (by have h_ := Kd.R_ne HO_504001.out BK496.out (by decide); intro e_; exact h_ (by rw [e_]; rfl)) _; (with_reducible repeat (first | refine blk_drewN ?_ _ | refine blk_drew ?_ | refine blk_alloc ?_ _)); exact BK496.out⟩, ⟨by (with_reducible repeat (first | refine blk_drewN ?_ _ | refine blk_drew ?_ | refine blk_alloc ?_ _)); refine blk_far ?_ (by have h_ := Kd.R_ne HO_504001.out BK503.out (by decide); intro e_; exact h_ (by rw [e_]; rfl)) _; (with_reducible repeat (first | refine blk_drewN ?_ _ | refine blk_drew ?_ | refine blk_alloc ?_ _)); exact BK503.out⟩, ⟨by repeat (first | (with_reducible first | exact HI0.out | apply IsS72.alloc | apply IsS72.drewN | apply IsS72.drew | apply IsS72.set_1 | apply IsS72.set_2 | refine IsS72.far ?_ HN0_go56.out _ | refine IsS72.far ?_ NB0_496.out _ | refine IsS72.far ?_ NB0_503.out _) | exact HI0.out)⟩, ⟨by repeat (first | (with_reducible first | exact HK.out | apply KeepBut.set_ | apply keep_drewN | apply keep_drew | apply keep_alloc | refine keep_far ?_ GB56.out _ | refine keep_far ?_ GW496.out _ | refine keep_far ?_ GW503.out _) | exact HK.out)⟩, ⟨by repeat (first | (with_reducible first | exact HB.out | apply below_alloc | apply pw_below_drewN | apply below_drew1 | refine below_set ?_ (Nat.le_trans HL.out GB56.out) | refine below_set ?_ (IsS72.ge HI0.out) | refine below_set ?_ GE496.out | refine below_set ?_ GE503.out) | exact HB.out)⟩⟩
                     ·rw [if_neg c53] at H
                      exact absurd H (by simp)
                    ·replace c52 := Bool.eq_false_iff.mpr c52
                     subst c52
                     have H1 : (spec_l1Cur_order.l2 k3 t497 t504 x8_3 x9_3 x12_2 (wrap64 (x13_3 + 1)) s0_0 t533 t534 t497 x504001_3) = some (r1, r2, r3, r4) := by rw [if_neg (show ¬ (false = true) by decide)] at H; exact H
                     clear H
                     have H := H1
                     clear H1
                     have H' := Aside0.mk H
                     clear H
                     try go_wp2
                     have n0_ := Aside0.mk (Kd.R_drew HO_8.out)
                     have n1_ := Aside0.mk (Kd.R_drew HO_9.out)
                     have n2_ := Aside0.mk (Kd.R_drew HO_504001.out)
                     have n3_ := Aside0.mk (blk_drew BK496.out)
                     have n4_ := Aside0.mk (blk_drew BK503.out)
                     have n5_ := Aside0.mk (IsS72.drew HI0.out)
                     have n6_ := Aside0.mk (keep_drew HK.out)
                     have n7_ := Aside0.mk (below_drew1 HB.out)
                     clear HO_8
                     clear HO_9
                     clear HO_504001
                     clear BK496
                     clear BK503
                     clear HI0
                     clear HK
                     clear HB
                     have HO_8 := n0_
                     have HO_9 := n1_
                     have HO_504001 := n2_
                     have BK496 := n3_
                     have BK503 := n4_
                     have HI0 := n5_
                     have HK := n6_
                     have HB := n7_
                     clear n0_ n1_ n2_ n3_ n4_ n5_ n6_ n7_
                     obtain ⟨Ao65, co65, eo65⟩ := Kd.R_slice HO_9.out
                     (first | subst eo65 | (injection eo65 with f1_ f2_ f3_; have f4_ := f1_.symm; have f5_ := f3_.symm; clear f1_ f2_ f3_; subst f4_; subst f5_))
                     have p528 : 0 ≤ (x12_2 : Int) := of_decide_eq_true (by first | (with_reducible assumption) | assumption)
                     have q528 : x12_2 < (x9_3.length : Int) := of_decide_eq_true (by first | (with_reducible assumption) | assumption)
                     obtain ⟨ad528, e528, hx528_0⟩ := Kd.at_int (Kd.R_reads' HO_9.out).2.2 x12_2 p528 q528
                     cases e528
                     replace p528 := eq_true p528
                     replace q528 := eq_true q528
                     obtain ⟨Ao66, co66, eo66⟩ := Kd.R_slice HO_8.out
                     (first | subst eo66 | (injection eo66 with f1_ f2_ f3_; have f4_ := f1_.symm; have f5_ := f3_.symm; clear f1_ f2_ f3_; subst f4_; subst f5_))
                     have p529 : 0 ≤ (x13_3 : Int) := of_decide_eq_true (by first | (with_reducible assumption) | assumption)
                     have q529 : x13_3 < (x8_3.length : Int) := of_decide_eq_true (by first | (with_reducible assumption) | assumption)
                     obtain ⟨ad529, e529, hx529_0⟩ := Kd.at_int (Kd.R_reads' HO_8.out).2.2 x13_3 p529 q529
                     cases e529
                     replace p529 := eq_true p529
                     replace q529 := eq_true q529
                     refine start_ (n := 26) (S := fun w' => w'.cell? (ad528.add (x12_2).toNat) = some (.int .i64 (rd x9_3 x12_2)) ∧ w'.cell? (ad529.add (x13_3).toNat) = some (.int .i64 (rd x8_3 x13_3))) (ds := []) #[F,F,F,F,F,F,F,F,F,F,F,F,F,F,F,F,F,F,F,F,F,F,F,F,F,F] (by kernel_rfl) rfl rfl ⟨hx528_0, hx529_0⟩ (fun hHeld => ?_); refine with_tabW spec_l1Cur_order.tab19 spec_l1Cur_order.bits19 (fun HT_ HW_ => ?_)
                     generalize wr.drew = w64 at HO_8 HO_9 HO_504001 BK496 BK503 HI0 HK HB hx528_0 hx529_0 hHeld ⊢
                     refine pure_ (i := 0) (N := some 61) (v := ?_) (a' := ?_) #[T,F,F,F,F,F,F,F,F,F,F,F,F,F,F,F,F,F,F,F,F,F,F,F,F,F] rfl rfl (any_of HT_.out (by kernel_rfl)) (fun _ _ _ h => h) (Or.inl ⟨by rfl, ?_⟩) ?_ ?_
                     rotate_left;·intro w';go_simp;with_reducible rfl
                     rotate_left;·simp only [Act.put, L_,M_,N_, i64_w, i32_w];rfl
                     refine pure_ (i := 1) (N := some 62) (v := ?_) (a' := ?_) #[T,T,F,F,F,F,F,F,F,F,F,F,F,F,F,F,F,F,F,F,F,F,F,F,F,F] rfl rfl (any_of HT_.out (by kernel_rfl)) (fun _ _ _ h => h) (Or.inl ⟨by rfl, ?_⟩) ?_ ?_
                     rotate_left;·intro w';go_simp;with_reducible rfl
                     rotate_left;·simp only [Act.put, L_,M_,N_, i64_w, i32_w];rfl
                     refine pure_ (i := 2) (N := some 63) (v := ?_) (a' := ?_) #[T,T,T,F,F,F,F,F,F,F,F,F,F,F,F,F,F,F,F,F,F,F,F,F,F,F] rfl rfl (any_of HT_.out (by kernel_rfl)) (fun _ _ _ h => h) (Or.inl ⟨by rfl, ?_⟩) ?_ ?_
                     rotate_left;·intro w';go_simp;with_reducible rfl
                     rotate_left;·simp only [Act.put, L_,M_,N_, i64_w, i32_w];rfl
                     refine pure_ (i := 3) (N := some 64) (v := ?_) (a' := ?_) #[T,T,T,T,F,F,F,F,F,F,F,F,F,F,F,F,F,F,F,F,F,F,F,F,F,F] rfl rfl (any_of HT_.out (by kernel_rfl)) (fun _ _ _ h => h) (Or.inl ⟨by rfl, ?_⟩) ?_ ?_
                     rotate_left;·intro w';go_simp;with_reducible rfl
                     rotate_left;·simp only [Act.put, L_,M_,N_, i64_w, i32_w];rfl
                     refine pure_ (i := 4) (N := some 65) (v := ?_) (a' := ?_) #[T,T,T,T,T,F,F,F,F,F,F,F,F,F,F,F,F,F,F,F,F,F,F,F,F,F] rfl rfl (any_of HT_.out (by kernel_rfl)) (fun _ _ _ h => h) (Or.inl ⟨by rfl, ?_⟩) ?_ ?_
                     rotate_left;·intro w';go_simp;with_reducible rfl
                     rotate_left;·simp only [Act.put, L_,M_,N_, i64_w, i32_w];rfl
                     refine pure_ (i := 5) (N := some 66) (v := ?_) (a' := ?_) #[T,T,T,T,T,T,F,F,F,F,F,F,F,F,F,F,F,F,F,F,F,F,F,F,F,F] rfl rfl (any_of HT_.out (by kernel_rfl)) (fun _ _ _ h => h) (Or.inl ⟨by rfl, ?_⟩) ?_ ?_
                     rotate_left;·intro w';go_simp;with_reducible rfl
                     rotate_left;·simp only [Act.put, L_,M_,N_, i64_w, i32_w];rfl
                     refine pure_ (i := 7) (N := some 68) (v := ?_) (a' := ?_) #[T,T,T,T,T,T,F,T,F,F,F,F,F,F,F,F,F,F,F,F,F,F,F,F,F,F] rfl rfl (any_of HT_.out (by kernel_rfl)) (fun _ _ _ h => h) (Or.inl ⟨by rfl, ?_⟩) ?_ ?_
                     rotate_left;·intro w';go_simp;with_reducible rfl
                     rotate_left;·simp only [Act.put, L_,M_,N_, i64_w, i32_w];rfl
                     refine pure_ (i := 8) (N := some 69) (v := ?_) (a' := ?_) #[T,T,T,T,T,T,F,T,T,F,F,F,F,F,F,F,F,F,F,F,F,F,F,F,F,F] rfl rfl (any_of HT_.out (by kernel_rfl)) (fun _ _ _ h => h) (Or.inl ⟨by rfl, ?_⟩) ?_ ?_
                     rotate_left;·intro w';go_simp;with_reducible rfl
                     rotate_left;·simp only [Act.put, L_,M_,N_, i64_w, i32_w];rfl
                     refine pure_ (i := 9) (N := some 70) (v := ?_) (a' := ?_) #[T,T,T,T,T,T,F,T,T,T,F,F,F,F,F,F,F,F,F,F,F,F,F,F,F,F] rfl rfl (any_of HT_.out (by kernel_rfl)) (fun _ _ _ h => h) (Or.inl ⟨by rfl, ?_⟩) ?_ ?_
                     rotate_left;·intro w';go_simp;with_reducible rfl
                     rotate_left;·simp only [Act.put, L_,M_,N_, i64_w, i32_w];rfl
                     refine take_ (i := 6) (N := some 67) (v := ?_) (a' := ?_) #[T,T,T,T,T,T,T,T,T,T,F,F,F,F,F,F,F,F,F,F,F,F,F,F,F,F] rfl rfl (take_ofW HT_.out HW_.out (by kernel_rfl)) (fun _ _ _ h => h) (Or.inl ⟨by rfl, ?_⟩) hHeld ?_ ?_
                     rotate_left
                     ·rintro w' ⟨s0, s1⟩
                      go_simp
                      with_reducible rfl
                     rotate_left;·simp only [Act.put, L_,M_,N_, i64_w, i32_w];rfl
                     refine take_ (i := 10) (N := some 71) (v := ?_) (a' := ?_) #[T,T,T,T,T,T,T,T,T,T,T,F,F,F,F,F,F,F,F,F,F,F,F,F,F,F] rfl rfl (take_ofW HT_.out HW_.out (by kernel_rfl)) (fun _ _ _ h => h) (Or.inl ⟨by rfl, ?_⟩) hHeld ?_ ?_
                     rotate_left
                     ·rintro w' ⟨s0, s1⟩
                      go_simp
                      with_reducible rfl
                     rotate_left;·simp only [Act.put, L_,M_,N_, i64_w, i32_w];rfl
                     refine pure_ (i := 11) (N := some 72) (v := ?_) (a' := ?_) #[T,T,T,T,T,T,T,T,T,T,T,T,F,F,F,F,F,F,F,F,F,F,F,F,F,F] rfl rfl (any_of HT_.out (by kernel_rfl)) (fun _ _ _ h => h) (Or.inl ⟨by rfl, ?_⟩) ?_ ?_
                     rotate_left;·intro w';go_simp;with_reducible rfl
                     rotate_left;·simp only [Act.put, L_,M_,N_, i64_w, i32_w];rfl
                     refine pure_ (i := 12) (N := some 73) (v := ?_) (a' := ?_) #[T,T,T,T,T,T,T,T,T,T,T,T,T,F,F,F,F,F,F,F,F,F,F,F,F,F] rfl rfl (any_of HT_.out (by kernel_rfl)) (fun _ _ _ h => h) (Or.inl ⟨by rfl, ?_⟩) ?_ ?_
                     rotate_left;·intro w';go_simp;with_reducible rfl
                     rotate_left;·simp only [Act.put, L_,M_,N_, i64_w, i32_w];rfl
                     refine pure_ (i := 13) (N := some 74) (v := ?_) (a' := ?_) #[T,T,T,T,T,T,T,T,T,T,T,T,T,T,F,F,F,F,F,F,F,F,F,F,F,F] rfl rfl (any_of HT_.out (by kernel_rfl)) (fun _ _ _ h => h) (Or.inl ⟨by rfl, ?_⟩) ?_ ?_
                     rotate_left;·intro w';go_simp;with_reducible rfl
                     rotate_left;·simp only [Act.put, L_,M_,N_, i64_w, i32_w];rfl
                     refine pure_ (i := 14) (N := some 75) (v := ?_) (a' := ?_) #[T,T,T,T,T,T,T,T,T,T,T,T,T,T,T,F,F,F,F,F,F,F,F,F,F,F] rfl rfl (any_of HT_.out (by kernel_rfl)) (fun _ _ _ h => h) (Or.inl ⟨by rfl, ?_⟩) ?_ ?_
                     rotate_left;·intro w';go_simp;with_reducible rfl
                     rotate_left;·simp only [Act.put, L_,M_,N_, i64_w, i32_w];rfl
                     refine pure_ (i := 15) (N := some 76) (v := ?_) (a' := ?_) #[T,T,T,T,T,T,T,T,T,T,T,T,T,T,T,T,F,F,F,F,F,F,F,F,F,F] rfl rfl (any_of HT_.out (by kernel_rfl)) (fun _ _ _ h => h) (Or.inl ⟨by rfl, ?_⟩) ?_ ?_
                     rotate_left;·intro w';go_simp;with_reducible rfl
                     rotate_left;·simp only [Act.put, L_,M_,N_, i64_w, i32_w];rfl
                     refine pure_ (i := 16) (N := some 77) (v := ?_) (a' := ?_) #[T,T,T,T,T,T,T,T,T,T,T,T,T,T,T,T,T,F,F,F,F,F,F,F,F,F] rfl rfl (any_of HT_.out (by kernel_rfl)) (fun _ _ _ h => h) (Or.inl ⟨by rfl, ?_⟩) ?_ ?_
                     rotate_left;·intro w';go_simp;with_reducible rfl
                     rotate_left;·simp only [Act.put, L_,M_,N_, i64_w, i32_w];rfl
                     refine pure_ (i := 17) (N := some 78) (v := ?_) (a' := ?_) #[T,T,T,T,T,T,T,T,T,T,T,T,T,T,T,T,T,T,F,F,F,F,F,F,F,F] rfl rfl (any_of HT_.out (by kernel_rfl)) (fun _ _ _ h => h) (Or.inl ⟨by rfl, ?_⟩) ?_ ?_
                     rotate_left;·intro w';go_simp;with_reducible rfl
                     rotate_left;·simp only [Act.put, L_,M_,N_, i64_w, i32_w];rfl
                     refine pure_ (i := 18) (N := some 79) (v := ?_) (a' := ?_) #[T,T,T,T,T,T,T,T,T,T,T,T,T,T,T,T,T,T,T,F,F,F,F,F,F,F] rfl rfl (any_of HT_.out (by kernel_rfl)) (fun _ _ _ h => h) (Or.inl ⟨by rfl, ?_⟩) ?_ ?_
                     rotate_left;·intro w';go_simp;with_reducible rfl
                     rotate_left;·simp only [Act.put, L_,M_,N_, i64_w, i32_w];rfl
                     refine pure_ (i := 19) (N := some 80) (v := ?_) (a' := ?_) #[T,T,T,T,T,T,T,T,T,T,T,T,T,T,T,T,T,T,T,T,F,F,F,F,F,F] rfl rfl (any_of HT_.out (by kernel_rfl)) (fun _ _ _ h => h) (Or.inl ⟨by rfl, ?_⟩) ?_ ?_
                     rotate_left;·intro w';go_simp;with_reducible rfl
                     rotate_left;·simp only [Act.put, L_,M_,N_, i64_w, i32_w];rfl
                     refine pure_ (i := 20) (N := some 81) (v := ?_) (a' := ?_) #[T,T,T,T,T,T,T,T,T,T,T,T,T,T,T,T,T,T,T,T,T,F,F,F,F,F] rfl rfl (any_of HT_.out (by kernel_rfl)) (fun _ _ _ h => h) (Or.inl ⟨by rfl, ?_⟩) ?_ ?_
                     rotate_left;·intro w';go_simp;with_reducible rfl
                     rotate_left;·simp only [Act.put, L_,M_,N_, i64_w, i32_w];rfl
                     refine pure_ (i := 21) (N := some 82) (v := ?_) (a' := ?_) #[T,T,T,T,T,T,T,T,T,T,T,T,T,T,T,T,T,T,T,T,T,T,F,F,F,F] rfl rfl (any_of HT_.out (by kernel_rfl)) (fun _ _ _ h => h) (Or.inl ⟨by rfl, ?_⟩) ?_ ?_
                     rotate_left;·intro w';go_simp;with_reducible rfl
                     rotate_left;·simp only [Act.put, L_,M_,N_, i64_w, i32_w];rfl
                     refine pure_ (i := 22) (N := some 83) (v := ?_) (a' := ?_) #[T,T,T,T,T,T,T,T,T,T,T,T,T,T,T,T,T,T,T,T,T,T,T,F,F,F] rfl rfl (any_of HT_.out (by kernel_rfl)) (fun _ _ _ h => h) (Or.inl ⟨by rfl, ?_⟩) ?_ ?_
                     rotate_left;·intro w';go_simp;with_reducible rfl
                     rotate_left;·simp only [Act.put, L_,M_,N_, i64_w, i32_w];rfl
                     refine one_ (i := 23) (N := some 84) #[T,T,T,T,T,T,T,T,T,T,T,T,T,T,T,T,T,T,T,T,T,T,T,T,F,F] rfl rfl (one_of HT_.out (by kernel_rfl)) (by decide) (fun K hK => ?_)
                     refine goes_ Tryd.func109 (by kernel_rfl) rfl #[.pointer (some ⟨g, 0, none⟩), .int .i64 3] (by rfl) rfl rfl (by (try simp only [List.map_toArray, List.map_cons, List.map_nil]); first | done | rfl | (simp only [List.length_drop, List.length_take]; rfl)) ?_
                     with_reducible refine (spec_l1Cur_one.calls g s0_0 x1001_3 x1002_3 3 false t533 t534 w0 _ ?side1 ?side2 A51.out).mono ?_
                     (case side1 => repeat (first | (with_reducible first | exact HI0.out | apply IsS72.alloc | apply IsS72.drewN | apply IsS72.drew | apply IsS72.set_1 | apply IsS72.set_2 | refine IsS72.far ?_ NB0_496.out _ | refine IsS72.far ?_ NB0_503.out _) | exact HI0.out))
                     (case side2 => repeat (first | (with_reducible first | exact HB.out | apply below_alloc | apply pw_below_drewN | apply below_drew1 | refine below_set ?_ (IsS72.ge HI0.out) | refine below_set ?_ GE496.out | refine below_set ?_ GE503.out) | exact HB.out))
                     rintro e w67 ⟨rfl, hi, hb, hk⟩
                     have HS0_ := keep_cell hk (hHeld.1) (by first | (rw [add_block]; exact Kd.own_blk (IsS72.own_ne HI0.out HO_9.out (by decide))) | (show (Addr.add _ _).block ≠ _; rw [add_block]; exact Kd.own_blk (IsS72.own_ne HI0.out HO_9.out (by decide))) | exact Kd.own_blk (IsS72.own_ne HI0.out HO_9.out (by decide)))
                     have HS1_ := keep_cell hk (hHeld.2) (by first | (rw [add_block]; exact Kd.own_blk (IsS72.own_ne HI0.out HO_8.out (by decide))) | (show (Addr.add _ _).block ≠ _; rw [add_block]; exact Kd.own_blk (IsS72.own_ne HI0.out HO_8.out (by decide))) | exact Kd.own_blk (IsS72.own_ne HI0.out HO_8.out (by decide)))
                     refine ⟨_, rfl, ?_⟩
                     have n0_ := Aside0.mk (Kd.R_mono (Kd.R_keep (IsS72.apart (show IsS72 w0 _ g s0_0 x1001_3 x1002_3 from by repeat (first | (with_reducible first | exact HI0.out | apply IsS72.alloc | apply IsS72.drewN | apply IsS72.drew | apply IsS72.set_1 | apply IsS72.set_2 | refine IsS72.far ?_ NB0_496.out _ | refine IsS72.far ?_ NB0_503.out _) | exact HI0.out)) (by (with_reducible repeat (first | apply Kd.R_alloc | apply Kd.R_drewN | apply Kd.R_drew)); exact HO_8.out) (by decide)) hk (fun _ h => h.2)) (fun _ h => h.1))
                     have n1_ := Aside0.mk (Kd.R_mono (Kd.R_keep (IsS72.apart (show IsS72 w0 _ g s0_0 x1001_3 x1002_3 from by repeat (first | (with_reducible first | exact HI0.out | apply IsS72.alloc | apply IsS72.drewN | apply IsS72.drew | apply IsS72.set_1 | apply IsS72.set_2 | refine IsS72.far ?_ NB0_496.out _ | refine IsS72.far ?_ NB0_503.out _) | exact HI0.out)) (by (with_reducible repeat (first | apply Kd.R_alloc | apply Kd.R_drewN | apply Kd.R_drew)); exact HO_9.out) (by decide)) hk (fun _ h => h.2)) (fun _ h => h.1))
                     have n2_ := Aside0.mk (Kd.R_mono (Kd.R_keep (IsS72.apart (show IsS72 w0 _ g s0_0 x1001_3 x1002_3 from by repeat (first | (with_reducible first | exact HI0.out | apply IsS72.alloc | apply IsS72.drewN | apply IsS72.drew | apply IsS72.set_1 | apply IsS72.set_2 | refine IsS72.far ?_ NB0_496.out _ | refine IsS72.far ?_ NB0_503.out _) | exact HI0.out)) (by (with_reducible repeat (first | apply Kd.R_alloc | apply Kd.R_drewN | apply Kd.R_drew)); exact HO_504001.out) (by decide)) hk (fun _ h => h.2)) (fun _ h => h.1))
                     have n3_ := Aside0.mk (KeepBut.blk hk (g' := gb496) (o := .cells #[.int .i64 0, .slice none 0 0] 26 (0, 0)) (by (with_reducible repeat (first | refine blk_drewN ?_ _ | refine blk_drew ?_ | refine blk_alloc ?_ _)); exact BK496.out) NB496_0.out (by simp))
                     have n4_ := Aside0.mk (KeepBut.blk hk (g' := gb503) (o := .cells #[.int .i64 t497, u504001] 26 (0, 0)) (by (with_reducible repeat (first | refine blk_drewN ?_ _ | refine blk_drew ?_ | refine blk_alloc ?_ _)); exact BK503.out) NB503_0.out (by simp))
                     have n5_ := Aside0.mk (KeepBut.trans (by repeat (first | (with_reducible first | exact HK.out | apply KeepBut.set_ | apply keep_drewN | apply keep_drew | apply keep_alloc | refine keep_far ?_ GW496.out _ | refine keep_far ?_ GW503.out _) | exact HK.out)) hk (.inl rfl))
                     have n6_ := Aside0.mk (hb)
                     have n7_ := Aside0.mk (hi)
                     clear HO_8
                     clear HO_9
                     clear HO_504001
                     clear BK496
                     clear BK503
                     clear HK
                     clear HB
                     clear HI0
                     have HO_8 := n0_
                     have HO_9 := n1_
                     have HO_504001 := n2_
                     have BK496 := n3_
                     have BK503 := n4_
                     have HK := n5_
                     have HB := n6_
                     have HI0 := n7_
                     clear n0_ n1_ n2_ n3_ n4_ n5_ n6_ n7_
                     (try clear hb)
                     (try clear hb2)
                     (try clear hk)
                     (try clear hi)
                     refine hK.out _ _ ⟨HS0_, HS1_⟩ (fun hHeld => ?_)
                     clear hK K
                     refine norm_ (a' := ?_) ?_ ?_
                     rotate_left
                     ·show Act.put _ (some 84) _ = _
                      simp only [Act.put, L_,M_,N_, i64_w, i32_w]
                      rfl
                     refine pure_ (i := 24) (N := some 85) (v := ?_) (a' := ?_) #[T,T,T,T,T,T,T,T,T,T,T,T,T,T,T,T,T,T,T,T,T,T,T,T,T,F] rfl rfl (any_of HT_.out (by kernel_rfl)) (fun _ _ _ h => h) (Or.inl ⟨by rfl, ?_⟩) ?_ ?_
                     rotate_left;·intro w';go_simp;with_reducible rfl
                     rotate_left;·simp only [Act.put, L_,M_,N_, i64_w, i32_w];rfl
                     refine pure_ (i := 25) (N := some 86) (v := ?_) (a' := ?_) #[T,T,T,T,T,T,T,T,T,T,T,T,T,T,T,T,T,T,T,T,T,T,T,T,T,T] rfl rfl (any_of HT_.out (by kernel_rfl)) (fun _ _ _ h => h) (Or.inl ⟨by rfl, ?_⟩) ?_ ?_
                     rotate_left;·intro w';go_simp;with_reducible rfl
                     rotate_left;·simp only [Act.put, L_,M_,N_, i64_w, i32_w];rfl
                     refine done_ (done_of HT_.out (by kernel_rfl)) ?_
                     try go_wp2
                     go_roundg k3
                     case measure => have := HK1.out; have := HK2.out; have := HK3.out; omega
                     case rel => exact ⟨(x8_3), (x9_3), (wrap64 (x13_3 + 1)), (t533), (t534), (x504001_3), (u504001), (by first | rfl | (simp; done) | (simp [*]; done)), H', ⟨by have := HK1.out; have := HK2.out; have := HK3.out; omega⟩, ⟨by (with_reducible repeat (first | apply Kd.R_alloc | apply Kd.R_drewN | apply Kd.R_drew)); exact HO_8.out⟩, ⟨by (with_reducible repeat (first | apply Kd.R_alloc | apply Kd.R_drewN | apply Kd.R_drew)); exact HO_9.out⟩, ⟨by (with_reducible repeat (first | apply Kd.R_alloc | apply Kd.R_drewN | apply Kd.R_drew)); exact HO_504001.out⟩, ⟨by (with_reducible repeat (first | refine blk_drewN ?_ _ | refine blk_drew ?_ | refine blk_alloc ?_ _)); exact BK496.out⟩, ⟨by (with_reducible repeat (first | refine blk_drewN ?_ _ | refine blk_drew ?_ | refine blk_alloc ?_ _)); exact BK503.out⟩, ⟨by repeat (first | (with_reducible first | exact HI0.out | apply IsS72.alloc | apply IsS72.drewN | apply IsS72.drew | apply IsS72.set_1 | apply IsS72.set_2 | refine IsS72.far ?_ NB0_496.out _ | refine IsS72.far ?_ NB0_503.out _) | exact HI0.out)⟩, ⟨by repeat (first | (with_reducible first | exact HK.out | apply KeepBut.set_ | apply keep_drewN | apply keep_drew | apply keep_alloc | refine keep_far ?_ GW496.out _ | refine keep_far ?_ GW503.out _) | exact HK.out)⟩, ⟨by repeat (first | (with_reducible first | exact HB.out | apply below_alloc | apply pw_below_drewN | apply below_drew1 | refine below_set ?_ (IsS72.ge HI0.out) | refine below_set ?_ GE496.out | refine below_set ?_ GE503.out) | exact HB.out)⟩⟩
                   ·rw [if_neg c50] at H
                    have c50b0 : decide (x12_2 < x13_3) = false := decide_eq_false c50
                    clear c50
                    have H' := Aside0.mk H
                    clear H
                    try go_wp2
                    have n0_ := Aside0.mk (Kd.R_drew HO_8.out)
                    have n1_ := Aside0.mk (Kd.R_drew HO_9.out)
                    have n2_ := Aside0.mk (Kd.R_drew HO_504001.out)
                    have n3_ := Aside0.mk (blk_drew BK496.out)
                    have n4_ := Aside0.mk (blk_drew BK503.out)
                    have n5_ := Aside0.mk (IsS72.drew HI0.out)
                    have n6_ := Aside0.mk (keep_drew HK.out)
                    have n7_ := Aside0.mk (below_drew1 HB.out)
                    clear HO_8
                    clear HO_9
                    clear HO_504001
                    clear BK496
                    clear BK503
                    clear HI0
                    clear HK
                    clear HB
                    have HO_8 := n0_
                    have HO_9 := n1_
                    have HO_504001 := n2_
                    have BK496 := n3_
                    have BK503 := n4_
                    have HI0 := n5_
                    have HK := n6_
                    have HB := n7_
                    clear n0_ n1_ n2_ n3_ n4_ n5_ n6_ n7_
                    obtain ⟨Ao69, co69, eo69⟩ := Kd.R_slice HO_9.out
                    (first | subst eo69 | (injection eo69 with f1_ f2_ f3_; have f4_ := f1_.symm; have f5_ := f3_.symm; clear f1_ f2_ f3_; subst f4_; subst f5_))
                    have p528 : 0 ≤ (x12_2 : Int) := of_decide_eq_true (by first | (with_reducible assumption) | assumption)
                    have q528 : x12_2 < (x9_3.length : Int) := of_decide_eq_true (by first | (with_reducible assumption) | assumption)
                    obtain ⟨ad528, e528, hx528_0⟩ := Kd.at_int (Kd.R_reads' HO_9.out).2.2 x12_2 p528 q528
                    cases e528
                    replace p528 := eq_true p528
                    replace q528 := eq_true q528
                    obtain ⟨Ao70, co70, eo70⟩ := Kd.R_slice HO_8.out
                    (first | subst eo70 | (injection eo70 with f1_ f2_ f3_; have f4_ := f1_.symm; have f5_ := f3_.symm; clear f1_ f2_ f3_; subst f4_; subst f5_))
                    have p529 : 0 ≤ (x13_3 : Int) := of_decide_eq_true (by first | (with_reducible assumption) | assumption)
                    have q529 : x13_3 < (x8_3.length : Int) := of_decide_eq_true (by first | (with_reducible assumption) | assumption)
                    obtain ⟨ad529, e529, hx529_0⟩ := Kd.at_int (Kd.R_reads' HO_8.out).2.2 x13_3 p529 q529
                    cases e529
                    replace p529 := eq_true p529
                    replace q529 := eq_true q529
                    refine start_ (n := 26) (S := fun w' => w'.cell? (ad528.add (x12_2).toNat) = some (.int .i64 (rd x9_3 x12_2)) ∧ w'.cell? (ad529.add (x13_3).toNat) = some (.int .i64 (rd x8_3 x13_3))) (ds := []) #[F,F,F,F,F,F,F,F,F,F,F,F,F,F,F,F,F,F,F,F,F,F,F,F,F,F] (by kernel_rfl) rfl rfl ⟨hx528_0, hx529_0⟩ (fun hHeld => ?_); refine with_tabW spec_l1Cur_order.tab19 spec_l1Cur_order.bits19 (fun HT_ HW_ => ?_)
                    generalize wr.drew = w68 at HO_8 HO_9 HO_504001 BK496 BK503 HI0 HK HB hx528_0 hx529_0 hHeld ⊢
                    refine pure_ (i := 0) (N := some 61) (v := ?_) (a' := ?_) #[T,F,F,F,F,F,F,F,F,F,F,F,F,F,F,F,F,F,F,F,F,F,F,F,F,F] rfl rfl (any_of HT_.out (by kernel_rfl)) (fun _ _ _ h => h) (Or.inl ⟨by rfl, ?_⟩) ?_ ?_
                    rotate_left;·intro w';go_simp;with_reducible rfl
                    rotate_left;·simp only [Act.put, L_,M_,N_, i64_w, i32_w];rfl
                    refine pure_ (i := 1) (N := some 62) (v := ?_) (a' := ?_) #[T,T,F,F,F,F,F,F,F,F,F,F,F,F,F,F,F,F,F,F,F,F,F,F,F,F] rfl rfl (any_of HT_.out (by kernel_rfl)) (fun _ _ _ h => h) (Or.inl ⟨by rfl, ?_⟩) ?_ ?_
                    rotate_left;·intro w';go_simp;with_reducible rfl
                    rotate_left;·simp only [Act.put, L_,M_,N_, i64_w, i32_w];rfl
                    refine pure_ (i := 2) (N := some 63) (v := ?_) (a' := ?_) #[T,T,T,F,F,F,F,F,F,F,F,F,F,F,F,F,F,F,F,F,F,F,F,F,F,F] rfl rfl (any_of HT_.out (by kernel_rfl)) (fun _ _ _ h => h) (Or.inl ⟨by rfl, ?_⟩) ?_ ?_
                    rotate_left;·intro w';go_simp;with_reducible rfl
                    rotate_left;·simp only [Act.put, L_,M_,N_, i64_w, i32_w];rfl
                    refine pure_ (i := 3) (N := some 64) (v := ?_) (a' := ?_) #[T,T,T,T,F,F,F,F,F,F,F,F,F,F,F,F,F,F,F,F,F,F,F,F,F,F] rfl rfl (any_of HT_.out (by kernel_rfl)) (fun _ _ _ h => h) (Or.inl ⟨by rfl, ?_⟩) ?_ ?_
                    rotate_left;·intro w';go_simp;with_reducible rfl
                    rotate_left;·simp only [Act.put, L_,M_,N_, i64_w, i32_w];rfl
                    refine pure_ (i := 4) (N := some 65) (v := ?_) (a' := ?_) #[T,T,T,T,T,F,F,F,F,F,F,F,F,F,F,F,F,F,F,F,F,F,F,F,F,F] rfl rfl (any_of HT_.out (by kernel_rfl)) (fun _ _ _ h => h) (Or.inl ⟨by rfl, ?_⟩) ?_ ?_
                    rotate_left;·intro w';go_simp;with_reducible rfl
                    rotate_left;·simp only [Act.put, L_,M_,N_, i64_w, i32_w];rfl
                    refine pure_ (i := 5) (N := some 66) (v := ?_) (a' := ?_) #[T,T,T,T,T,T,F,F,F,F,F,F,F,F,F,F,F,F,F,F,F,F,F,F,F,F] rfl rfl (any_of HT_.out (by kernel_rfl)) (fun _ _ _ h => h) (Or.inl ⟨by rfl, ?_⟩) ?_ ?_
                    rotate_left;·intro w';go_simp;with_reducible rfl
                    rotate_left;·simp only [Act.put, L_,M_,N_, i64_w, i32_w];rfl
                    refine pure_ (i := 7) (N := some 68) (v := ?_) (a' := ?_) #[T,T,T,T,T,T,F,T,F,F,F,F,F,F,F,F,F,F,F,F,F,F,F,F,F,F] rfl rfl (any_of HT_.out (by kernel_rfl)) (fun _ _ _ h => h) (Or.inl ⟨by rfl, ?_⟩) ?_ ?_
                    rotate_left;·intro w';go_simp;with_reducible rfl
                    rotate_left;·simp only [Act.put, L_,M_,N_, i64_w, i32_w];rfl
                    refine pure_ (i := 8) (N := some 69) (v := ?_) (a' := ?_) #[T,T,T,T,T,T,F,T,T,F,F,F,F,F,F,F,F,F,F,F,F,F,F,F,F,F] rfl rfl (any_of HT_.out (by kernel_rfl)) (fun _ _ _ h => h) (Or.inl ⟨by rfl, ?_⟩) ?_ ?_
                    rotate_left;·intro w';go_simp;with_reducible rfl
                    rotate_left;·simp only [Act.put, L_,M_,N_, i64_w, i32_w];rfl
                    refine pure_ (i := 9) (N := some 70) (v := ?_) (a' := ?_) #[T,T,T,T,T,T,F,T,T,T,F,F,F,F,F,F,F,F,F,F,F,F,F,F,F,F] rfl rfl (any_of HT_.out (by kernel_rfl)) (fun _ _ _ h => h) (Or.inl ⟨by rfl, ?_⟩) ?_ ?_
                    rotate_left;·intro w';go_simp;with_reducible rfl
                    rotate_left;·simp only [Act.put, L_,M_,N_, i64_w, i32_w];rfl
                    refine take_ (i := 6) (N := some 67) (v := ?_) (a' := ?_) #[T,T,T,T,T,T,T,T,T,T,F,F,F,F,F,F,F,F,F,F,F,F,F,F,F,F] rfl rfl (take_ofW HT_.out HW_.out (by kernel_rfl)) (fun _ _ _ h => h) (Or.inl ⟨by rfl, ?_⟩) hHeld ?_ ?_
                    rotate_left
                    ·rintro w' ⟨s0, s1⟩
                     go_simp
                     with_reducible rfl
                    rotate_left;·simp only [Act.put, L_,M_,N_, i64_w, i32_w];rfl
                    refine take_ (i := 10) (N := some 71) (v := ?_) (a' := ?_) #[T,T,T,T,T,T,T,T,T,T,T,F,F,F,F,F,F,F,F,F,F,F,F,F,F,F] rfl rfl (take_ofW HT_.out HW_.out (by kernel_rfl)) (fun _ _ _ h => h) (Or.inl ⟨by rfl, ?_⟩) hHeld ?_ ?_
                    rotate_left
                    ·rintro w' ⟨s0, s1⟩
                     go_simp
                     with_reducible rfl
                    rotate_left;·simp only [Act.put, L_,M_,N_, i64_w, i32_w];rfl
                    refine pure_ (i := 11) (N := some 72) (v := ?_) (a' := ?_) #[T,T,T,T,T,T,T,T,T,T,T,T,F,F,F,F,F,F,F,F,F,F,F,F,F,F] rfl rfl (any_of HT_.out (by kernel_rfl)) (fun _ _ _ h => h) (Or.inl ⟨by rfl, ?_⟩) ?_ ?_
                    rotate_left;·intro w';go_simp;with_reducible rfl
                    rotate_left;·simp only [Act.put, L_,M_,N_, i64_w, i32_w];rfl
                    refine pure_ (i := 12) (N := some 73) (v := ?_) (a' := ?_) #[T,T,T,T,T,T,T,T,T,T,T,T,T,F,F,F,F,F,F,F,F,F,F,F,F,F] rfl rfl (any_of HT_.out (by kernel_rfl)) (fun _ _ _ h => h) (Or.inl ⟨by rfl, ?_⟩) ?_ ?_
                    rotate_left;·intro w';go_simp;with_reducible rfl
                    rotate_left;·simp only [Act.put, L_,M_,N_, i64_w, i32_w];rfl
                    refine pure_ (i := 13) (N := some 74) (v := ?_) (a' := ?_) #[T,T,T,T,T,T,T,T,T,T,T,T,T,T,F,F,F,F,F,F,F,F,F,F,F,F] rfl rfl (any_of HT_.out (by kernel_rfl)) (fun _ _ _ h => h) (Or.inl ⟨by rfl, ?_⟩) ?_ ?_
                    rotate_left;·intro w';go_simp;with_reducible rfl
                    rotate_left;·simp only [Act.put, L_,M_,N_, i64_w, i32_w];rfl
                    refine pure_ (i := 14) (N := some 75) (v := ?_) (a' := ?_) #[T,T,T,T,T,T,T,T,T,T,T,T,T,T,T,F,F,F,F,F,F,F,F,F,F,F] rfl rfl (any_of HT_.out (by kernel_rfl)) (fun _ _ _ h => h) (Or.inl ⟨by rfl, ?_⟩) ?_ ?_
                    rotate_left;·intro w';go_simp;with_reducible rfl
                    rotate_left;·simp only [Act.put, L_,M_,N_, i64_w, i32_w];rfl
                    refine pure_ (i := 15) (N := some 76) (v := ?_) (a' := ?_) #[T,T,T,T,T,T,T,T,T,T,T,T,T,T,T,T,F,F,F,F,F,F,F,F,F,F] rfl rfl (any_of HT_.out (by kernel_rfl)) (fun _ _ _ h => h) (Or.inl ⟨by rfl, ?_⟩) ?_ ?_
                    rotate_left;·intro w';go_simp;with_reducible rfl
                    rotate_left;·simp only [Act.put, L_,M_,N_, i64_w, i32_w];rfl
                    refine pure_ (i := 16) (N := some 77) (v := ?_) (a' := ?_) #[T,T,T,T,T,T,T,T,T,T,T,T,T,T,T,T,T,F,F,F,F,F,F,F,F,F] rfl rfl (any_of HT_.out (by kernel_rfl)) (fun _ _ _ h => h) (Or.inl ⟨by rfl, ?_⟩) ?_ ?_
                    rotate_left;·intro w';go_simp;with_reducible rfl
                    rotate_left;·simp only [Act.put, L_,M_,N_, i64_w, i32_w];rfl
                    refine pure_ (i := 17) (N := some 78) (v := ?_) (a' := ?_) #[T,T,T,T,T,T,T,T,T,T,T,T,T,T,T,T,T,T,F,F,F,F,F,F,F,F] rfl rfl (any_of HT_.out (by kernel_rfl)) (fun _ _ _ h => h) (Or.inl ⟨by rfl, ?_⟩) ?_ ?_
                    rotate_left;·intro w';go_simp;with_reducible rfl
                    rotate_left;·simp only [Act.put, L_,M_,N_, i64_w, i32_w];rfl
                    refine pure_ (i := 18) (N := some 79) (v := ?_) (a' := ?_) #[T,T,T,T,T,T,T,T,T,T,T,T,T,T,T,T,T,T,T,F,F,F,F,F,F,F] rfl rfl (any_of HT_.out (by kernel_rfl)) (fun _ _ _ h => h) (Or.inl ⟨by rfl, ?_⟩) ?_ ?_
                    rotate_left;·intro w';go_simp;with_reducible rfl
                    rotate_left;·simp only [Act.put, L_,M_,N_, i64_w, i32_w];rfl
                    refine pure_ (i := 19) (N := some 80) (v := ?_) (a' := ?_) #[T,T,T,T,T,T,T,T,T,T,T,T,T,T,T,T,T,T,T,T,F,F,F,F,F,F] rfl rfl (any_of HT_.out (by kernel_rfl)) (fun _ _ _ h => h) (Or.inl ⟨by rfl, ?_⟩) ?_ ?_
                    rotate_left;·intro w';go_simp;with_reducible rfl
                    rotate_left;·simp only [Act.put, L_,M_,N_, i64_w, i32_w];rfl
                    refine pure_ (i := 20) (N := some 81) (v := ?_) (a' := ?_) #[T,T,T,T,T,T,T,T,T,T,T,T,T,T,T,T,T,T,T,T,T,F,F,F,F,F] rfl rfl (any_of HT_.out (by kernel_rfl)) (fun _ _ _ h => h) (Or.inl ⟨by rfl, ?_⟩) ?_ ?_
                    rotate_left;·intro w';go_simp;with_reducible rfl
                    rotate_left;·simp only [Act.put, L_,M_,N_, i64_w, i32_w];rfl
                    refine pure_ (i := 21) (N := some 82) (v := ?_) (a' := ?_) #[T,T,T,T,T,T,T,T,T,T,T,T,T,T,T,T,T,T,T,T,T,T,F,F,F,F] rfl rfl (any_of HT_.out (by kernel_rfl)) (fun _ _ _ h => h) (Or.inl ⟨by rfl, ?_⟩) ?_ ?_
                    rotate_left;·intro w';go_simp;with_reducible rfl
                    rotate_left;·simp only [Act.put, L_,M_,N_, i64_w, i32_w];rfl
                    refine pure_ (i := 22) (N := some 83) (v := undef) (a' := ?_) #[T,T,T,T,T,T,T,T,T,T,T,T,T,T,T,T,T,T,T,T,T,T,T,F,F,F] rfl rfl (any_of HT_.out (by kernel_rfl)) (fun _ _ _ h => h) (Or.inr ⟨by rfl, rfl⟩) ?_ ?_
                    rotate_left;·simp only [Act.put, L_,M_,N_, i64_w, i32_w];rfl
                    refine pure_ (i := 23) (N := some 84) (v := undef) (a' := ?_) #[T,T,T,T,T,T,T,T,T,T,T,T,T,T,T,T,T,T,T,T,T,T,T,T,F,F] rfl rfl (any_of HT_.out (by kernel_rfl)) (fun _ _ _ h => h) (Or.inr ⟨by rfl, rfl⟩) ?_ ?_
                    rotate_left;·simp only [Act.put, L_,M_,N_, i64_w, i32_w];rfl
                    refine pure_ (i := 24) (N := some 85) (v := ?_) (a' := ?_) #[T,T,T,T,T,T,T,T,T,T,T,T,T,T,T,T,T,T,T,T,T,T,T,T,T,F] rfl rfl (any_of HT_.out (by kernel_rfl)) (fun _ _ _ h => h) (Or.inl ⟨by rfl, ?_⟩) ?_ ?_
                    rotate_left;·intro w';go_simp;with_reducible rfl
                    rotate_left;·simp only [Act.put, L_,M_,N_, i64_w, i32_w];rfl
                    refine pure_ (i := 25) (N := some 86) (v := ?_) (a' := ?_) #[T,T,T,T,T,T,T,T,T,T,T,T,T,T,T,T,T,T,T,T,T,T,T,T,T,T] rfl rfl (any_of HT_.out (by kernel_rfl)) (fun _ _ _ h => h) (Or.inl ⟨by rfl, ?_⟩) ?_ ?_
                    rotate_left;·intro w';go_simp;with_reducible rfl
                    rotate_left;·simp only [Act.put, L_,M_,N_, i64_w, i32_w];rfl
                    refine done_ (done_of HT_.out (by kernel_rfl)) ?_
                    try go_wp2
                    go_roundg k3
                    case measure => have := HK1.out; have := HK2.out; have := HK3.out; omega
                    case rel => exact ⟨(x8_3), (x9_3), (wrap64 (x13_3 + 1)), (x1001_3), (x1002_3), (x504001_3), (u504001), (by first | rfl | (simp; done) | (simp [*]; done)), H', ⟨by have := HK1.out; have := HK2.out; have := HK3.out; omega⟩, ⟨by (with_reducible repeat (first | apply Kd.R_alloc | apply Kd.R_drewN | apply Kd.R_drew)); exact HO_8.out⟩, ⟨by (with_reducible repeat (first | apply Kd.R_alloc | apply Kd.R_drewN | apply Kd.R_drew)); exact HO_9.out⟩, ⟨by (with_reducible repeat (first | apply Kd.R_alloc | apply Kd.R_drewN | apply Kd.R_drew)); exact HO_504001.out⟩, ⟨by (with_reducible repeat (first | refine blk_drewN ?_ _ | refine blk_drew ?_ | refine blk_alloc ?_ _)); exact BK496.out⟩, ⟨by (with_reducible repeat (first | refine blk_drewN ?_ _ | refine blk_drew ?_ | refine blk_alloc ?_ _)); exact BK503.out⟩, ⟨by repeat (first | (with_reducible first | exact HI0.out | apply IsS72.alloc | apply IsS72.drewN | apply IsS72.drew | apply IsS72.set_1 | apply IsS72.set_2 | refine IsS72.far ?_ NB0_496.out _ | refine IsS72.far ?_ NB0_503.out _) | exact HI0.out)⟩, ⟨by repeat (first | (with_reducible first | exact HK.out | apply KeepBut.set_ | apply keep_drewN | apply keep_drew | apply keep_alloc | refine keep_far ?_ GW496.out _ | refine keep_far ?_ GW503.out _) | exact HK.out)⟩, ⟨by repeat (first | (with_reducible first | exact HB.out | apply below_alloc | apply pw_below_drewN | apply below_drew1 | refine below_set ?_ (IsS72.ge HI0.out) | refine below_set ?_ GE496.out | refine below_set ?_ GE503.out) | exact HB.out)⟩⟩
                  ·rw [if_neg c49] at H
                   have c49b0 : (t504 == 0) = false := beq_eq_false_iff_ne.mpr c49
                   have c49b1 : (t504 != 0) = true := bne_iff_ne.mpr c49
                   have H' := Aside0.mk H
                   clear H
                   try go_wp2
                   have n0_ := Aside0.mk (Kd.R_drew HO_8.out)
                   have n1_ := Aside0.mk (Kd.R_drew HO_9.out)
                   have n2_ := Aside0.mk (Kd.R_drew HO_504001.out)
                   have n3_ := Aside0.mk (blk_drew BK496.out)
                   have n4_ := Aside0.mk (blk_drew BK503.out)
                   have n5_ := Aside0.mk (IsS72.drew HI0.out)
                   have n6_ := Aside0.mk (keep_drew HK.out)
                   have n7_ := Aside0.mk (below_drew1 HB.out)
                   clear HO_8
                   clear HO_9
                   clear HO_504001
                   clear BK496
                   clear BK503
                   clear HI0
                   clear HK
                   clear HB
                   have HO_8 := n0_
                   have HO_9 := n1_
                   have HO_504001 := n2_
                   have BK496 := n3_
                   have BK503 := n4_
                   have HI0 := n5_
                   have HK := n6_
                   have HB := n7_
                   clear n0_ n1_ n2_ n3_ n4_ n5_ n6_ n7_
                   obtain ⟨Ao72, co72, eo72⟩ := Kd.R_slice HO_9.out
                   (first | subst eo72 | (injection eo72 with f1_ f2_ f3_; have f4_ := f1_.symm; have f5_ := f3_.symm; clear f1_ f2_ f3_; subst f4_; subst f5_))
                   have p528 : 0 ≤ (x12_2 : Int) := of_decide_eq_true (by first | (with_reducible assumption) | assumption)
                   have q528 : x12_2 < (x9_3.length : Int) := of_decide_eq_true (by first | (with_reducible assumption) | assumption)
                   obtain ⟨ad528, e528, hx528_0⟩ := Kd.at_int (Kd.R_reads' HO_9.out).2.2 x12_2 p528 q528
                   cases e528
                   replace p528 := eq_true p528
                   replace q528 := eq_true q528
                   obtain ⟨Ao73, co73, eo73⟩ := Kd.R_slice HO_8.out
                   (first | subst eo73 | (injection eo73 with f1_ f2_ f3_; have f4_ := f1_.symm; have f5_ := f3_.symm; clear f1_ f2_ f3_; subst f4_; subst f5_))
                   have p529 : 0 ≤ (x13_3 : Int) := of_decide_eq_true (by first | (with_reducible assumption) | assumption)
                   have q529 : x13_3 < (x8_3.length : Int) := of_decide_eq_true (by first | (with_reducible assumption) | assumption)
                   obtain ⟨ad529, e529, hx529_0⟩ := Kd.at_int (Kd.R_reads' HO_8.out).2.2 x13_3 p529 q529
                   cases e529
                   replace p529 := eq_true p529
                   replace q529 := eq_true q529
                   refine start_ (n := 26) (S := fun w' => w'.cell? (ad528.add (x12_2).toNat) = some (.int .i64 (rd x9_3 x12_2)) ∧ w'.cell? (ad529.add (x13_3).toNat) = some (.int .i64 (rd x8_3 x13_3))) (ds := []) #[F,F,F,F,F,F,F,F,F,F,F,F,F,F,F,F,F,F,F,F,F,F,F,F,F,F] (by kernel_rfl) rfl rfl ⟨hx528_0, hx529_0⟩ (fun hHeld => ?_); refine with_tabW spec_l1Cur_order.tab19 spec_l1Cur_order.bits19 (fun HT_ HW_ => ?_)
                   generalize wr.drew = w71 at HO_8 HO_9 HO_504001 BK496 BK503 HI0 HK HB hx528_0 hx529_0 hHeld ⊢
                   refine pure_ (i := 0) (N := some 61) (v := ?_) (a' := ?_) #[T,F,F,F,F,F,F,F,F,F,F,F,F,F,F,F,F,F,F,F,F,F,F,F,F,F] rfl rfl (any_of HT_.out (by kernel_rfl)) (fun _ _ _ h => h) (Or.inl ⟨by rfl, ?_⟩) ?_ ?_
                   rotate_left;·intro w';go_simp;with_reducible rfl
                   rotate_left;·simp only [Act.put, L_,M_,N_, i64_w, i32_w];rfl
                   refine pure_ (i := 1) (N := some 62) (v := ?_) (a' := ?_) #[T,T,F,F,F,F,F,F,F,F,F,F,F,F,F,F,F,F,F,F,F,F,F,F,F,F] rfl rfl (any_of HT_.out (by kernel_rfl)) (fun _ _ _ h => h) (Or.inl ⟨by rfl, ?_⟩) ?_ ?_
                   rotate_left;·intro w';go_simp;with_reducible rfl
                   rotate_left;·simp only [Act.put, L_,M_,N_, i64_w, i32_w];rfl
                   refine pure_ (i := 2) (N := some 63) (v := ?_) (a' := ?_) #[T,T,T,F,F,F,F,F,F,F,F,F,F,F,F,F,F,F,F,F,F,F,F,F,F,F] rfl rfl (any_of HT_.out (by kernel_rfl)) (fun _ _ _ h => h) (Or.inl ⟨by rfl, ?_⟩) ?_ ?_
                   rotate_left;·intro w';go_simp;with_reducible rfl
                   rotate_left;·simp only [Act.put, L_,M_,N_, i64_w, i32_w];rfl
                   refine pure_ (i := 3) (N := some 64) (v := ?_) (a' := ?_) #[T,T,T,T,F,F,F,F,F,F,F,F,F,F,F,F,F,F,F,F,F,F,F,F,F,F] rfl rfl (any_of HT_.out (by kernel_rfl)) (fun _ _ _ h => h) (Or.inl ⟨by rfl, ?_⟩) ?_ ?_
                   rotate_left;·intro w';go_simp;with_reducible rfl
                   rotate_left;·simp only [Act.put, L_,M_,N_, i64_w, i32_w];rfl
                   refine pure_ (i := 4) (N := some 65) (v := ?_) (a' := ?_) #[T,T,T,T,T,F,F,F,F,F,F,F,F,F,F,F,F,F,F,F,F,F,F,F,F,F] rfl rfl (any_of HT_.out (by kernel_rfl)) (fun _ _ _ h => h) (Or.inl ⟨by rfl, ?_⟩) ?_ ?_
                   rotate_left;·intro w';go_simp;with_reducible rfl
                   rotate_left;·simp only [Act.put, L_,M_,N_, i64_w, i32_w];rfl
                   refine pure_ (i := 5) (N := some 66) (v := ?_) (a' := ?_) #[T,T,T,T,T,T,F,F,F,F,F,F,F,F,F,F,F,F,F,F,F,F,F,F,F,F] rfl rfl (any_of HT_.out (by kernel_rfl)) (fun _ _ _ h => h) (Or.inl ⟨by rfl, ?_⟩) ?_ ?_
                   rotate_left;·intro w';go_simp;with_reducible rfl
                   rotate_left;·simp only [Act.put, L_,M_,N_, i64_w, i32_w];rfl
                   refine pure_ (i := 7) (N := some 68) (v := ?_) (a' := ?_) #[T,T,T,T,T,T,F,T,F,F,F,F,F,F,F,F,F,F,F,F,F,F,F,F,F,F] rfl rfl (any_of HT_.out (by kernel_rfl)) (fun _ _ _ h => h) (Or.inl ⟨by rfl, ?_⟩) ?_ ?_
                   rotate_left;·intro w';go_simp;with_reducible rfl
                   rotate_left;·simp only [Act.put, L_,M_,N_, i64_w, i32_w];rfl
                   refine pure_ (i := 8) (N := some 69) (v := ?_) (a' := ?_) #[T,T,T,T,T,T,F,T,T,F,F,F,F,F,F,F,F,F,F,F,F,F,F,F,F,F] rfl rfl (any_of HT_.out (by kernel_rfl)) (fun _ _ _ h => h) (Or.inl ⟨by rfl, ?_⟩) ?_ ?_
                   rotate_left;·intro w';go_simp;with_reducible rfl
                   rotate_left;·simp only [Act.put, L_,M_,N_, i64_w, i32_w];rfl
                   refine pure_ (i := 9) (N := some 70) (v := ?_) (a' := ?_) #[T,T,T,T,T,T,F,T,T,T,F,F,F,F,F,F,F,F,F,F,F,F,F,F,F,F] rfl rfl (any_of HT_.out (by kernel_rfl)) (fun _ _ _ h => h) (Or.inl ⟨by rfl, ?_⟩) ?_ ?_
                   rotate_left;·intro w';go_simp;with_reducible rfl
                   rotate_left;·simp only [Act.put, L_,M_,N_, i64_w, i32_w];rfl
                   refine take_ (i := 6) (N := some 67) (v := ?_) (a' := ?_) #[T,T,T,T,T,T,T,T,T,T,F,F,F,F,F,F,F,F,F,F,F,F,F,F,F,F] rfl rfl (take_ofW HT_.out HW_.out (by kernel_rfl)) (fun _ _ _ h => h) (Or.inl ⟨by rfl, ?_⟩) hHeld ?_ ?_
                   rotate_left
                   ·rintro w' ⟨s0, s1⟩
                    go_simp
                    with_reducible rfl
                   rotate_left;·simp only [Act.put, L_,M_,N_, i64_w, i32_w];rfl
                   refine take_ (i := 10) (N := some 71) (v := ?_) (a' := ?_) #[T,T,T,T,T,T,T,T,T,T,T,F,F,F,F,F,F,F,F,F,F,F,F,F,F,F] rfl rfl (take_ofW HT_.out HW_.out (by kernel_rfl)) (fun _ _ _ h => h) (Or.inl ⟨by rfl, ?_⟩) hHeld ?_ ?_
                   rotate_left
                   ·rintro w' ⟨s0, s1⟩
                    go_simp
                    with_reducible rfl
                   rotate_left;·simp only [Act.put, L_,M_,N_, i64_w, i32_w];rfl
                   refine pure_ (i := 11) (N := some 72) (v := ?_) (a' := ?_) #[T,T,T,T,T,T,T,T,T,T,T,T,F,F,F,F,F,F,F,F,F,F,F,F,F,F] rfl rfl (any_of HT_.out (by kernel_rfl)) (fun _ _ _ h => h) (Or.inl ⟨by rfl, ?_⟩) ?_ ?_
                   rotate_left;·intro w';go_simp;with_reducible rfl
                   rotate_left;·simp only [Act.put, L_,M_,N_, i64_w, i32_w];rfl
                   refine pure_ (i := 12) (N := some 73) (v := ?_) (a' := ?_) #[T,T,T,T,T,T,T,T,T,T,T,T,T,F,F,F,F,F,F,F,F,F,F,F,F,F] rfl rfl (any_of HT_.out (by kernel_rfl)) (fun _ _ _ h => h) (Or.inl ⟨by rfl, ?_⟩) ?_ ?_
                   rotate_left;·intro w';go_simp;with_reducible rfl
                   rotate_left;·simp only [Act.put, L_,M_,N_, i64_w, i32_w];rfl
                   refine pure_ (i := 13) (N := some 74) (v := ?_) (a' := ?_) #[T,T,T,T,T,T,T,T,T,T,T,T,T,T,F,F,F,F,F,F,F,F,F,F,F,F] rfl rfl (any_of HT_.out (by kernel_rfl)) (fun _ _ _ h => h) (Or.inl ⟨by rfl, ?_⟩) ?_ ?_
                   rotate_left;·intro w';go_simp;with_reducible rfl
                   rotate_left;·simp only [Act.put, L_,M_,N_, i64_w, i32_w];rfl
                   refine pure_ (i := 14) (N := some 75) (v := ?_) (a' := ?_) #[T,T,T,T,T,T,T,T,T,T,T,T,T,T,T,F,F,F,F,F,F,F,F,F,F,F] rfl rfl (any_of HT_.out (by kernel_rfl)) (fun _ _ _ h => h) (Or.inl ⟨by rfl, ?_⟩) ?_ ?_
                   rotate_left;·intro w';go_simp;with_reducible rfl
                   rotate_left;·simp only [Act.put, L_,M_,N_, i64_w, i32_w];rfl
                   refine pure_ (i := 15) (N := some 76) (v := ?_) (a' := ?_) #[T,T,T,T,T,T,T,T,T,T,T,T,T,T,T,T,F,F,F,F,F,F,F,F,F,F] rfl rfl (any_of HT_.out (by kernel_rfl)) (fun _ _ _ h => h) (Or.inl ⟨by rfl, ?_⟩) ?_ ?_
                   rotate_left;·intro w';go_simp;with_reducible rfl
                   rotate_left;·simp only [Act.put, L_,M_,N_, i64_w, i32_w];rfl
                   refine pure_ (i := 16) (N := some 77) (v := ?_) (a' := ?_) #[T,T,T,T,T,T,T,T,T,T,T,T,T,T,T,T,T,F,F,F,F,F,F,F,F,F] rfl rfl (any_of HT_.out (by kernel_rfl)) (fun _ _ _ h => h) (Or.inl ⟨by rfl, ?_⟩) ?_ ?_
                   rotate_left;·intro w';go_simp;with_reducible rfl
                   rotate_left;·simp only [Act.put, L_,M_,N_, i64_w, i32_w];rfl
                   refine pure_ (i := 17) (N := some 78) (v := undef) (a' := ?_) #[T,T,T,T,T,T,T,T,T,T,T,T,T,T,T,T,T,T,F,F,F,F,F,F,F,F] rfl rfl (any_of HT_.out (by kernel_rfl)) (fun _ _ _ h => h) (Or.inr ⟨by rfl, rfl⟩) ?_ ?_
                   rotate_left;·simp only [Act.put, L_,M_,N_, i64_w, i32_w];rfl
                   refine pure_ (i := 18) (N := some 79) (v := undef) (a' := ?_) #[T,T,T,T,T,T,T,T,T,T,T,T,T,T,T,T,T,T,T,F,F,F,F,F,F,F] rfl rfl (any_of HT_.out (by kernel_rfl)) (fun _ _ _ h => h) (Or.inr ⟨by rfl, rfl⟩) ?_ ?_
                   rotate_left;·simp only [Act.put, L_,M_,N_, i64_w, i32_w];rfl
                   refine pure_ (i := 19) (N := some 80) (v := undef) (a' := ?_) #[T,T,T,T,T,T,T,T,T,T,T,T,T,T,T,T,T,T,T,T,F,F,F,F,F,F] rfl rfl (any_of HT_.out (by kernel_rfl)) (fun _ _ _ h => h) (Or.inr ⟨by rfl, rfl⟩) ?_ ?_
                   rotate_left;·simp only [Act.put, L_,M_,N_, i64_w, i32_w];rfl
                   refine pure_ (i := 20) (N := some 81) (v := ?_) (a' := ?_) #[T,T,T,T,T,T,T,T,T,T,T,T,T,T,T,T,T,T,T,T,T,F,F,F,F,F] rfl rfl (any_of HT_.out (by kernel_rfl)) (fun _ _ _ h => h) (Or.inl ⟨by rfl, ?_⟩) ?_ ?_
                   rotate_left;·intro w';go_simp;with_reducible rfl
                   rotate_left;·simp only [Act.put, L_,M_,N_, i64_w, i32_w];rfl
                   refine pure_ (i := 21) (N := some 82) (v := ?_) (a' := ?_) #[T,T,T,T,T,T,T,T,T,T,T,T,T,T,T,T,T,T,T,T,T,T,F,F,F,F] rfl rfl (any_of HT_.out (by kernel_rfl)) (fun _ _ _ h => h) (Or.inl ⟨by rfl, ?_⟩) ?_ ?_
                   rotate_left;·intro w';go_simp;with_reducible rfl
                   rotate_left;·simp only [Act.put, L_,M_,N_, i64_w, i32_w];rfl
                   refine pure_ (i := 22) (N := some 83) (v := undef) (a' := ?_) #[T,T,T,T,T,T,T,T,T,T,T,T,T,T,T,T,T,T,T,T,T,T,T,F,F,F] rfl rfl (any_of HT_.out (by kernel_rfl)) (fun _ _ _ h => h) (Or.inr ⟨by rfl, rfl⟩) ?_ ?_
                   rotate_left;·simp only [Act.put, L_,M_,N_, i64_w, i32_w];rfl
                   refine pure_ (i := 23) (N := some 84) (v := undef) (a' := ?_) #[T,T,T,T,T,T,T,T,T,T,T,T,T,T,T,T,T,T,T,T,T,T,T,T,F,F] rfl rfl (any_of HT_.out (by kernel_rfl)) (fun _ _ _ h => h) (Or.inr ⟨by rfl, rfl⟩) ?_ ?_
                   rotate_left;·simp only [Act.put, L_,M_,N_, i64_w, i32_w];rfl
                   refine pure_ (i := 24) (N := some 85) (v := ?_) (a' := ?_) #[T,T,T,T,T,T,T,T,T,T,T,T,T,T,T,T,T,T,T,T,T,T,T,T,T,F] rfl rfl (any_of HT_.out (by kernel_rfl)) (fun _ _ _ h => h) (Or.inl ⟨by rfl, ?_⟩) ?_ ?_
                   rotate_left;·intro w';go_simp;with_reducible rfl
                   rotate_left;·simp only [Act.put, L_,M_,N_, i64_w, i32_w];rfl
                   refine pure_ (i := 25) (N := some 86) (v := ?_) (a' := ?_) #[T,T,T,T,T,T,T,T,T,T,T,T,T,T,T,T,T,T,T,T,T,T,T,T,T,T] rfl rfl (any_of HT_.out (by kernel_rfl)) (fun _ _ _ h => h) (Or.inl ⟨by rfl, ?_⟩) ?_ ?_
                   rotate_left;·intro w';go_simp;with_reducible rfl
                   rotate_left;·simp only [Act.put, L_,M_,N_, i64_w, i32_w];rfl
                   refine done_ (done_of HT_.out (by kernel_rfl)) ?_
                   try go_wp2
                   go_roundg k3
                   case measure => have := HK1.out; have := HK2.out; have := HK3.out; omega
                   case rel => exact ⟨(x8_3), (x9_3), (wrap64 (x13_3 + 1)), (x1001_3), (x1002_3), (x504001_3), (u504001), (by first | rfl | (simp; done) | (simp [*]; done)), H', ⟨by have := HK1.out; have := HK2.out; have := HK3.out; omega⟩, ⟨by (with_reducible repeat (first | apply Kd.R_alloc | apply Kd.R_drewN | apply Kd.R_drew)); exact HO_8.out⟩, ⟨by (with_reducible repeat (first | apply Kd.R_alloc | apply Kd.R_drewN | apply Kd.R_drew)); exact HO_9.out⟩, ⟨by (with_reducible repeat (first | apply Kd.R_alloc | apply Kd.R_drewN | apply Kd.R_drew)); exact HO_504001.out⟩, ⟨by (with_reducible repeat (first | refine blk_drewN ?_ _ | refine blk_drew ?_ | refine blk_alloc ?_ _)); exact BK496.out⟩, ⟨by (with_reducible repeat (first | refine blk_drewN ?_ _ | refine blk_drew ?_ | refine blk_alloc ?_ _)); exact BK503.out⟩, ⟨by repeat (first | (with_reducible first | exact HI0.out | apply IsS72.alloc | apply IsS72.drewN | apply IsS72.drew | apply IsS72.set_1 | apply IsS72.set_2 | refine IsS72.far ?_ NB0_496.out _ | refine IsS72.far ?_ NB0_503.out _) | exact HI0.out)⟩, ⟨by repeat (first | (with_reducible first | exact HK.out | apply KeepBut.set_ | apply keep_drewN | apply keep_drew | apply keep_alloc | refine keep_far ?_ GW496.out _ | refine keep_far ?_ GW503.out _) | exact HK.out)⟩, ⟨by repeat (first | (with_reducible first | exact HB.out | apply below_alloc | apply pw_below_drewN | apply below_drew1 | refine below_set ?_ (IsS72.ge HI0.out) | refine below_set ?_ GE496.out | refine below_set ?_ GE503.out) | exact HB.out)⟩⟩
                ·rw [if_neg c37] at H
                 exact absurd H (by simp)
               ·rw [if_neg c36] at H
                exact absurd H (by simp)
              ·rw [if_neg c35] at H
               exact absurd H (by simp)
             ·rw [if_neg c34] at H
              exact absurd H (by simp)
            ·rw [if_neg c33] at H
             have c33b0 : decide (0 < t504) = false := decide_eq_false c33
             clear c33
             by_cases c74 : t504 = 0
             ·rw [if_pos c74] at H
              have c74b0 : (t504 == 0) = true := beq_iff_eq.mpr c74
              have c74b1 : (t504 != 0) = false := bne_eq_false_iff_eq.mpr c74
              clear c74
              by_cases c75 : x12_2 < x13_3
              ·rw [if_pos c75] at H
               have c75b0 : decide (x12_2 < x13_3) = true := decide_eq_true c75
               clear c75
               replace H := Option.bind_eq_some_iff.mp H
               obtain ⟨⟨t537, t538, t539⟩, A760, H⟩ := H
               replace H : (if t537 = true then (if 0 ≤ x12_2 then (if x12_2 < (x504001_3.length : Int) then (if 0 ≤ x13_3 then (spec_l1Cur_order.l2 k3 t497 t504 x8_3 x9_3 x12_2 (wrap64 (x13_3 + 1)) s0_0 t538 t539 t497 (x504001_3.set (x12_2 : Int).toNat (Go.bits .or .i64 (rd x504001_3 x12_2) (shl .i64 1 x13_3)))) else (none)) else (none)) else (none)) else (spec_l1Cur_order.l2 k3 t497 t504 x8_3 x9_3 x12_2 (wrap64 (x13_3 + 1)) s0_0 t538 t539 t497 x504001_3)) = some (r1, r2, r3, r4) := H
               have A76 := Aside0.mk A760
               clear A760
               by_cases c77 : t537 = true
               ·subst c77
                have H1 : (if 0 ≤ x12_2 then (if x12_2 < (x504001_3.length : Int) then (if 0 ≤ x13_3 then (spec_l1Cur_order.l2 k3 t497 t504 x8_3 x9_3 x12_2 (wrap64 (x13_3 + 1)) s0_0 t538 t539 t497 (x504001_3.set (x12_2 : Int).toNat (Go.bits .or .i64 (rd x504001_3 x12_2) (shl .i64 1 x13_3)))) else (none)) else (none)) else (none)) = some (r1, r2, r3, r4) := by rw [if_pos rfl] at H; exact H
                clear H
                have H := H1
                clear H1
                by_cases c78 : 0 ≤ x12_2
                ·rw [if_pos c78] at H
                 have c78b0 : decide (0 ≤ x12_2) = true := decide_eq_true c78
                 clear c78
                 by_cases c79 : x12_2 < (x504001_3.length : Int)
                 ·rw [if_pos c79] at H
                  have c79b0 : decide (x12_2 < (x504001_3.length : Int)) = true := decide_eq_true c79
                  clear c79
                  by_cases c80 : 0 ≤ x13_3
                  ·rw [if_pos c80] at H
                   have c80b0 := eq_true c80
                   have c80b1 : decide (0 ≤ x13_3) = true := decide_eq_true c80
                   clear c80
                   obtain ⟨ji81, hji81⟩ : ∃ j_ : Int, (shl .i64 1 x13_3) = j_ := ⟨_, rfl⟩
                   replace H : (spec_l1Cur_order.l2 k3 t497 t504 x8_3 x9_3 x12_2 (wrap64 (x13_3 + 1)) s0_0 t538 t539 t497 (x504001_3.set (x12_2 : Int).toNat (Go.bits .or .i64 (rd x504001_3 x12_2) (ji81)))) = some (r1, r2, r3, r4) := by first | (rw [hji81] at H; exact H) | (simp only [hji81] at H ⊢; exact H)
                   (try rw [hji81] at A76)
                   have hji81_ : (IntKind.i64.wrap (1 * 2 ^ min x13_3.toNat 64)) = ji81 := hji81
                   have hji81z : x13_3 ≤ 64 → (IntKind.i64.wrap (1 * 2 ^ x13_3.toNat)) = ji81 := shl_small hji81
                   have hji81u : (IntKind.i64.wrap (2 ^ min x13_3.toNat 64)) = ji81 := by have h_ := hji81_; rw [Int.one_mul] at h_; exact h_
                   have hji81v : x13_3 ≤ 64 → (IntKind.i64.wrap (2 ^ x13_3.toNat)) = ji81 := fun hle_ => by have h_ := hji81z hle_; rw [Int.one_mul] at h_; exact h_
                   have hji81y : (wrap64 (1 * 2 ^ min x13_3.toNat 64)) = ji81 := (i64_w _).symm.trans hji81_
                   have hji81x : x13_3 ≤ 64 → (wrap64 (1 * 2 ^ x13_3.toNat)) = ji81 := fun h_ => (i64_w _).symm.trans (hji81z h_)
                   obtain ⟨y541, hy541⟩ : ∃ y_ : List Int, y_ = (x504001_3.set (x12_2 : Int).toNat (Go.bits .or .i64 (rd x504001_3 x12_2) (ji81))) := ⟨_, rfl⟩
                   replace H : (spec_l1Cur_order.l2 k3 t497 t504 x8_3 x9_3 x12_2 (wrap64 (x13_3 + 1)) s0_0 t538 t539 t497 y541) = some (r1, r2, r3, r4) := by first | (rw [hy541]; with_reducible exact H) | (have H2_ := (Option.bind_some _ _).symm.trans H; rw [hy541]; with_reducible exact H2_) | (have H2_ := (Option.bind_some _ _).symm.trans H; with_reducible exact H2_) | with_reducible exact H | (rw [hy541]; exact H) | exact H
                   have Ny541 := Aside0.mk hy541
                   clear hy541
                   have H' := Aside0.mk H
                   clear H
                   try go_wp2
                   have n0_ := Aside0.mk (Kd.R_drew HO_8.out)
                   have n1_ := Aside0.mk (Kd.R_drew HO_9.out)
                   have n2_ := Aside0.mk (Kd.R_drew HO_504001.out)
                   have n3_ := Aside0.mk (blk_drew BK496.out)
                   have n4_ := Aside0.mk (blk_drew BK503.out)
                   have n5_ := Aside0.mk (IsS72.drew HI0.out)
                   have n6_ := Aside0.mk (keep_drew HK.out)
                   have n7_ := Aside0.mk (below_drew1 HB.out)
                   clear HO_8
                   clear HO_9
                   clear HO_504001
                   clear BK496
                   clear BK503
                   clear HI0
                   clear HK
                   clear HB
                   have HO_8 := n0_
                   have HO_9 := n1_
                   have HO_504001 := n2_
                   have BK496 := n3_
                   have BK503 := n4_
                   have HI0 := n5_
                   have HK := n6_
                   have HB := n7_
                   clear n0_ n1_ n2_ n3_ n4_ n5_ n6_ n7_
                   refine start_ (n := 26) (S := fun w' => True) (ds := []) #[F,F,F,F,F,F,F,F,F,F,F,F,F,F,F,F,F,F,F,F,F,F,F,F,F,F] (by kernel_rfl) rfl rfl trivial (fun hHeld => ?_); refine with_tabW spec_l1Cur_order.tab19 spec_l1Cur_order.bits19 (fun HT_ HW_ => ?_)
                   generalize wr.drew = w83 at HO_8 HO_9 HO_504001 BK496 BK503 HI0 HK HB hHeld ⊢
                   refine pure_ (i := 0) (N := some 61) (v := ?_) (a' := ?_) #[T,F,F,F,F,F,F,F,F,F,F,F,F,F,F,F,F,F,F,F,F,F,F,F,F,F] rfl rfl (any_of HT_.out (by kernel_rfl)) (fun _ _ _ h => h) (Or.inl ⟨by rfl, ?_⟩) ?_ ?_
                   rotate_left;·intro w';go_simp;with_reducible rfl
                   rotate_left;·simp only [Act.put, L_,M_,N_, i64_w, i32_w];rfl
                   refine pure_ (i := 1) (N := some 62) (v := ?_) (a' := ?_) #[T,T,F,F,F,F,F,F,F,F,F,F,F,F,F,F,F,F,F,F,F,F,F,F,F,F] rfl rfl (any_of HT_.out (by kernel_rfl)) (fun _ _ _ h => h) (Or.inl ⟨by rfl, ?_⟩) ?_ ?_
                   rotate_left;·intro w';go_simp;with_reducible rfl
                   rotate_left;·simp only [Act.put, L_,M_,N_, i64_w, i32_w];rfl
                   refine pure_ (i := 2) (N := some 63) (v := ?_) (a' := ?_) #[T,T,T,F,F,F,F,F,F,F,F,F,F,F,F,F,F,F,F,F,F,F,F,F,F,F] rfl rfl (any_of HT_.out (by kernel_rfl)) (fun _ _ _ h => h) (Or.inl ⟨by rfl, ?_⟩) ?_ ?_
                   rotate_left;·intro w';go_simp;with_reducible rfl
                   rotate_left;·simp only [Act.put, L_,M_,N_, i64_w, i32_w];rfl
                   refine pure_ (i := 3) (N := some 64) (v := undef) (a' := ?_) #[T,T,T,T,F,F,F,F,F,F,F,F,F,F,F,F,F,F,F,F,F,F,F,F,F,F] rfl rfl (any_of HT_.out (by kernel_rfl)) (fun _ _ _ h => h) (Or.inr ⟨by rfl, rfl⟩) ?_ ?_
                   rotate_left;·simp only [Act.put, L_,M_,N_, i64_w, i32_w];rfl
                   refine pure_ (i := 4) (N := some 65) (v := undef) (a' := ?_) #[T,T,T,T,T,F,F,F,F,F,F,F,F,F,F,F,F,F,F,F,F,F,F,F,F,F] rfl rfl (any_of HT_.out (by kernel_rfl)) (fun _ _ _ h => h) (Or.inr ⟨by rfl, rfl⟩) ?_ ?_
                   rotate_left;·simp only [Act.put, L_,M_,N_, i64_w, i32_w];rfl
                   refine pure_ (i := 5) (N := some 66) (v := undef) (a' := ?_) #[T,T,T,T,T,T,F,F,F,F,F,F,F,F,F,F,F,F,F,F,F,F,F,F,F,F] rfl rfl (any_of HT_.out (by kernel_rfl)) (fun _ _ _ h => h) (Or.inr ⟨by rfl, rfl⟩) ?_ ?_
                   rotate_left;·simp only [Act.put, L_,M_,N_, i64_w, i32_w];rfl
                   refine pure_ (i := 6) (N := some 67) (v := undef) (a' := ?_) #[T,T,T,T,T,T,T,F,F,F,F,F,F,F,F,F,F,F,F,F,F,F,F,F,F,F] rfl rfl (any_of HT_.out (by kernel_rfl)) (fun _ _ _ h => h) (Or.inr ⟨by rfl, rfl⟩) ?_ ?_
                   rotate_left;·simp only [Act.put, L_,M_,N_, i64_w, i32_w];rfl
                   refine pure_ (i := 7) (N := some 68) (v := undef) (a' := ?_) #[T,T,T,T,T,T,T,T,F,F,F,F,F,F,F,F,F,F,F,F,F,F,F,F,F,F] rfl rfl (any_of HT_.out (by kernel_rfl)) (fun _ _ _ h => h) (Or.inr ⟨by rfl, rfl⟩) ?_ ?_
                   rotate_left;·simp only [Act.put, L_,M_,N_, i64_w, i32_w];rfl
                   refine pure_ (i := 8) (N := some 69) (v := undef) (a' := ?_) #[T,T,T,T,T,T,T,T,T,F,F,F,F,F,F,F,F,F,F,F,F,F,F,F,F,F] rfl rfl (any_of HT_.out (by kernel_rfl)) (fun _ _ _ h => h) (Or.inr ⟨by rfl, rfl⟩) ?_ ?_
                   rotate_left;·simp only [Act.put, L_,M_,N_, i64_w, i32_w];rfl
                   refine pure_ (i := 9) (N := some 70) (v := undef) (a' := ?_) #[T,T,T,T,T,T,T,T,T,T,F,F,F,F,F,F,F,F,F,F,F,F,F,F,F,F] rfl rfl (any_of HT_.out (by kernel_rfl)) (fun _ _ _ h => h) (Or.inr ⟨by rfl, rfl⟩) ?_ ?_
                   rotate_left;·simp only [Act.put, L_,M_,N_, i64_w, i32_w];rfl
                   refine pure_ (i := 10) (N := some 71) (v := undef) (a' := ?_) #[T,T,T,T,T,T,T,T,T,T,T,F,F,F,F,F,F,F,F,F,F,F,F,F,F,F] rfl rfl (any_of HT_.out (by kernel_rfl)) (fun _ _ _ h => h) (Or.inr ⟨by rfl, rfl⟩) ?_ ?_
                   rotate_left;·simp only [Act.put, L_,M_,N_, i64_w, i32_w];rfl
                   refine pure_ (i := 11) (N := some 72) (v := undef) (a' := ?_) #[T,T,T,T,T,T,T,T,T,T,T,T,F,F,F,F,F,F,F,F,F,F,F,F,F,F] rfl rfl (any_of HT_.out (by kernel_rfl)) (fun _ _ _ h => h) (Or.inr ⟨by rfl, rfl⟩) ?_ ?_
                   rotate_left;·simp only [Act.put, L_,M_,N_, i64_w, i32_w];rfl
                   refine pure_ (i := 12) (N := some 73) (v := ?_) (a' := ?_) #[T,T,T,T,T,T,T,T,T,T,T,T,T,F,F,F,F,F,F,F,F,F,F,F,F,F] rfl rfl (any_of HT_.out (by kernel_rfl)) (fun _ _ _ h => h) (Or.inl ⟨by rfl, ?_⟩) ?_ ?_
                   rotate_left;·intro w';go_simp;with_reducible rfl
                   rotate_left;·simp only [Act.put, L_,M_,N_, i64_w, i32_w];rfl
                   refine pure_ (i := 13) (N := some 74) (v := ?_) (a' := ?_) #[T,T,T,T,T,T,T,T,T,T,T,T,T,T,F,F,F,F,F,F,F,F,F,F,F,F] rfl rfl (any_of HT_.out (by kernel_rfl)) (fun _ _ _ h => h) (Or.inl ⟨by rfl, ?_⟩) ?_ ?_
                   rotate_left;·intro w';go_simp;with_reducible rfl
                   rotate_left;·simp only [Act.put, L_,M_,N_, i64_w, i32_w];rfl
                   refine pure_ (i := 14) (N := some 75) (v := ?_) (a' := ?_) #[T,T,T,T,T,T,T,T,T,T,T,T,T,T,T,F,F,F,F,F,F,F,F,F,F,F] rfl rfl (any_of HT_.out (by kernel_rfl)) (fun _ _ _ h => h) (Or.inl ⟨by rfl, ?_⟩) ?_ ?_
                   rotate_left;·intro w';go_simp;with_reducible rfl
                   rotate_left;·simp only [Act.put, L_,M_,N_, i64_w, i32_w];rfl
                   refine pure_ (i := 15) (N := some 76) (v := ?_) (a' := ?_) #[T,T,T,T,T,T,T,T,T,T,T,T,T,T,T,T,F,F,F,F,F,F,F,F,F,F] rfl rfl (any_of HT_.out (by kernel_rfl)) (fun _ _ _ h => h) (Or.inl ⟨by rfl, ?_⟩) ?_ ?_
                   rotate_left;·intro w';go_simp;with_reducible rfl
                   rotate_left;·simp only [Act.put, L_,M_,N_, i64_w, i32_w];rfl
                   refine pure_ (i := 16) (N := some 77) (v := ?_) (a' := ?_) #[T,T,T,T,T,T,T,T,T,T,T,T,T,T,T,T,T,F,F,F,F,F,F,F,F,F] rfl rfl (any_of HT_.out (by kernel_rfl)) (fun _ _ _ h => h) (Or.inl ⟨by rfl, ?_⟩) ?_ ?_
                   rotate_left;·intro w';go_simp;with_reducible rfl
                   rotate_left;·simp only [Act.put, L_,M_,N_, i64_w, i32_w];rfl
                   refine pure_ (i := 17) (N := some 78) (v := ?_) (a' := ?_) #[T,T,T,T,T,T,T,T,T,T,T,T,T,T,T,T,T,T,F,F,F,F,F,F,F,F] rfl rfl (any_of HT_.out (by kernel_rfl)) (fun _ _ _ h => h) (Or.inl ⟨by rfl, ?_⟩) ?_ ?_
                   rotate_left;·intro w';go_simp;with_reducible rfl
                   rotate_left;·simp only [Act.put, L_,M_,N_, i64_w, i32_w];rfl
                   refine pure_ (i := 18) (N := some 79) (v := ?_) (a' := ?_) #[T,T,T,T,T,T,T,T,T,T,T,T,T,T,T,T,T,T,T,F,F,F,F,F,F,F] rfl rfl (any_of HT_.out (by kernel_rfl)) (fun _ _ _ h => h) (Or.inl ⟨by rfl, ?_⟩) ?_ ?_
                   rotate_left;·intro w';go_simp;with_reducible rfl
                   rotate_left;·simp only [Act.put, L_,M_,N_, i64_w, i32_w];rfl
                   refine pure_ (i := 19) (N := some 80) (v := ?_) (a' := ?_) #[T,T,T,T,T,T,T,T,T,T,T,T,T,T,T,T,T,T,T,T,F,F,F,F,F,F] rfl rfl (any_of HT_.out (by kernel_rfl)) (fun _ _ _ h => h) (Or.inl ⟨by rfl, ?_⟩) ?_ ?_
                   rotate_left;·intro w';go_simp;with_reducible rfl
                   rotate_left;·simp only [Act.put, L_,M_,N_, i64_w, i32_w];rfl
                   refine pure_ (i := 20) (N := some 81) (v := ?_) (a' := ?_) #[T,T,T,T,T,T,T,T,T,T,T,T,T,T,T,T,T,T,T,T,T,F,F,F,F,F] rfl rfl (any_of HT_.out (by kernel_rfl)) (fun _ _ _ h => h) (Or.inl ⟨by rfl, ?_⟩) ?_ ?_
                   rotate_left;·intro w';go_simp;with_reducible rfl
                   rotate_left;·simp only [Act.put, L_,M_,N_, i64_w, i32_w];rfl
                   refine pure_ (i := 21) (N := some 82) (v := ?_) (a' := ?_) #[T,T,T,T,T,T,T,T,T,T,T,T,T,T,T,T,T,T,T,T,T,T,F,F,F,F] rfl rfl (any_of HT_.out (by kernel_rfl)) (fun _ _ _ h => h) (Or.inl ⟨by rfl, ?_⟩) ?_ ?_
                   rotate_left;·intro w';go_simp;with_reducible rfl
                   rotate_left;·simp only [Act.put, L_,M_,N_, i64_w, i32_w];rfl
                   refine pure_ (i := 22) (N := some 83) (v := ?_) (a' := ?_) #[T,T,T,T,T,T,T,T,T,T,T,T,T,T,T,T,T,T,T,T,T,T,T,F,F,F] rfl rfl (any_of HT_.out (by kernel_rfl)) (fun _ _ _ h => h) (Or.inl ⟨by rfl, ?_⟩) ?_ ?_
                   rotate_left;·intro w';go_simp;with_reducible rfl
                   rotate_left;·simp only [Act.put, L_,M_,N_, i64_w, i32_w];rfl
                   refine one_ (i := 23) (N := some 84) #[T,T,T,T,T,T,T,T,T,T,T,T,T,T,T,T,T,T,T,T,T,T,T,T,F,F] rfl rfl (one_of HT_.out (by kernel_rfl)) (by decide) (fun K hK => ?_)
                   refine goes_ Tryd.func109 (by kernel_rfl) rfl #[.pointer (some ⟨g, 0, none⟩), .int .i64 3] (by rfl) rfl rfl (by (try simp only [List.map_toArray, List.map_cons, List.map_nil]); first | done | rfl | (simp only [List.length_drop, List.length_take]; rfl)) ?_
                   with_reducible refine (spec_l1Cur_one.calls g s0_0 x1001_3 x1002_3 3 true t538 t539 w0 _ ?side1 ?side2 A76.out).mono ?_
                   (case side1 => repeat (first | (with_reducible first | exact HI0.out | apply IsS72.alloc | apply IsS72.drewN | apply IsS72.drew | apply IsS72.set_1 | apply IsS72.set_2 | refine IsS72.far ?_ NB0_496.out _ | refine IsS72.far ?_ NB0_503.out _) | exact HI0.out))
                   (case side2 => repeat (first | (with_reducible first | exact HB.out | apply below_alloc | apply pw_below_drewN | apply below_drew1 | refine below_set ?_ (IsS72.ge HI0.out) | refine below_set ?_ GE496.out | refine below_set ?_ GE503.out) | exact HB.out))
                   rintro e w84 ⟨rfl, hi, hb, hk⟩
                   refine ⟨_, rfl, ?_⟩
                   have n0_ := Aside0.mk (Kd.R_mono (Kd.R_keep (IsS72.apart (show IsS72 w0 _ g s0_0 x1001_3 x1002_3 from by repeat (first | (with_reducible first | exact HI0.out | apply IsS72.alloc | apply IsS72.drewN | apply IsS72.drew | apply IsS72.set_1 | apply IsS72.set_2 | refine IsS72.far ?_ NB0_496.out _ | refine IsS72.far ?_ NB0_503.out _) | exact HI0.out)) (by (with_reducible repeat (first | apply Kd.R_alloc | apply Kd.R_drewN | apply Kd.R_drew)); exact HO_8.out) (by decide)) hk (fun _ h => h.2)) (fun _ h => h.1))
                   have n1_ := Aside0.mk (Kd.R_mono (Kd.R_keep (IsS72.apart (show IsS72 w0 _ g s0_0 x1001_3 x1002_3 from by repeat (first | (with_reducible first | exact HI0.out | apply IsS72.alloc | apply IsS72.drewN | apply IsS72.drew | apply IsS72.set_1 | apply IsS72.set_2 | refine IsS72.far ?_ NB0_496.out _ | refine IsS72.far ?_ NB0_503.out _) | exact HI0.out)) (by (with_reducible repeat (first | apply Kd.R_alloc | apply Kd.R_drewN | apply Kd.R_drew)); exact HO_9.out) (by decide)) hk (fun _ h => h.2)) (fun _ h => h.1))
                   have n2_ := Aside0.mk (Kd.R_mono (Kd.R_keep (IsS72.apart (show IsS72 w0 _ g s0_0 x1001_3 x1002_3 from by repeat (first | (with_reducible first | exact HI0.out | apply IsS72.alloc | apply IsS72.drewN | apply IsS72.drew | apply IsS72.set_1 | apply IsS72.set_2 | refine IsS72.far ?_ NB0_496.out _ | refine IsS72.far ?_ NB0_503.out _) | exact HI0.out)) (by (with_reducible repeat (first | apply Kd.R_alloc | apply Kd.R_drewN | apply Kd.R_drew)); exact HO_504001.out) (by decide)) hk (fun _ h => h.2)) (fun _ h => h.1))
                   have n3_ := Aside0.mk (KeepBut.blk hk (g' := gb496) (o := .cells #[.int .i64 0, .slice none 0 0] 26 (0, 0)) (by (with_reducible repeat (first | refine blk_drewN ?_ _ | refine blk_drew ?_ | refine blk_alloc ?_ _)); exact BK496.out) NB496_0.out (by simp))
                   have n4_ := Aside0.mk (KeepBut.blk hk (g' := gb503) (o := .cells #[.int .i64 t497, u504001] 26 (0, 0)) (by (with_reducible repeat (first | refine blk_drewN ?_ _ | refine blk_drew ?_ | refine blk_alloc ?_ _)); exact BK503.out) NB503_0.out (by simp))
                   have n5_ := Aside0.mk (KeepBut.trans (by repeat (first | (with_reducible first | exact HK.out | apply KeepBut.set_ | apply keep_drewN | apply keep_drew | apply keep_alloc | refine keep_far ?_ GW496.out _ | refine keep_far ?_ GW503.out _) | exact HK.out)) hk (.inl rfl))
                   have n6_ := Aside0.mk (hb)
                   have n7_ := Aside0.mk (hi)
                   clear HO_8
                   clear HO_9
                   clear HO_504001
                   clear BK496
                   clear BK503
                   clear HK
                   clear HB
                   clear HI0
                   have HO_8 := n0_
                   have HO_9 := n1_
                   have HO_504001 := n2_
                   have BK496 := n3_
                   have BK503 := n4_
                   have HK := n5_
                   have HB := n6_
                   have HI0 := n7_
                   clear n0_ n1_ n2_ n3_ n4_ n5_ n6_ n7_
                   (try clear hb)
                   (try clear hb2)
                   (try clear hk)
                   (try clear hi)
                   refine hK.out _ _ trivial (fun hHeld => ?_)
                   clear hK K
                   refine norm_ (a' := ?_) ?_ ?_
                   rotate_left
                   ·show Act.put _ (some 84) _ = _
                    simp only [Act.put, L_,M_,N_, i64_w, i32_w]
                    rfl
                   refine pure_ (i := 24) (N := some 85) (v := ?_) (a' := ?_) #[T,T,T,T,T,T,T,T,T,T,T,T,T,T,T,T,T,T,T,T,T,T,T,T,T,F] rfl rfl (any_of HT_.out (by kernel_rfl)) (fun _ _ _ h => h) (Or.inl ⟨by rfl, ?_⟩) ?_ ?_
                   rotate_left;·intro w';go_simp;with_reducible rfl
                   rotate_left;·simp only [Act.put, L_,M_,N_, i64_w, i32_w];rfl
                   refine pure_ (i := 25) (N := some 86) (v := ?_) (a' := ?_) #[T,T,T,T,T,T,T,T,T,T,T,T,T,T,T,T,T,T,T,T,T,T,T,T,T,T] rfl rfl (any_of HT_.out (by kernel_rfl)) (fun _ _ _ h => h) (Or.inl ⟨by rfl, ?_⟩) ?_ ?_
                   rotate_left;·intro w';go_simp;with_reducible rfl
                   rotate_left;·simp only [Act.put, L_,M_,N_, i64_w, i32_w];rfl
                   refine done_ (done_of HT_.out (by kernel_rfl)) ?_
                   try go_wp2
                   have n0_ := Aside0.mk (Kd.R_drew HO_8.out)
                   have n1_ := Aside0.mk (Kd.R_drew HO_9.out)
                   have n2_ := Aside0.mk (Kd.R_drew HO_504001.out)
                   have n3_ := Aside0.mk (blk_drew BK496.out)
                   have n4_ := Aside0.mk (blk_drew BK503.out)
                   have n5_ := Aside0.mk (IsS72.drew HI0.out)
                   have n6_ := Aside0.mk (keep_drew HK.out)
                   have n7_ := Aside0.mk (below_drew1 HB.out)
                   clear HO_8
                   clear HO_9
                   clear HO_504001
                   clear BK496
                   clear BK503
                   clear HI0
                   clear HK
                   clear HB
                   have HO_8 := n0_
                   have HO_9 := n1_
                   have HO_504001 := n2_
                   have BK496 := n3_
                   have BK503 := n4_
                   have HI0 := n5_
                   have HK := n6_
                   have HB := n7_
                   clear n0_ n1_ n2_ n3_ n4_ n5_ n6_ n7_
                   obtain ⟨Ao86, co86, eo86⟩ := Kd.R_slice HO_504001.out
                   (first | subst eo86 | (injection eo86 with f1_ f2_ f3_; have f4_ := f1_.symm; have f5_ := f3_.symm; clear f1_ f2_ f3_; subst f4_; subst f5_))
                   have p540 : 0 ≤ (x12_2 : Int) := of_decide_eq_true (by first | (with_reducible assumption) | assumption)
                   have q540 : x12_2 < (x504001_3.length : Int) := of_decide_eq_true (by first | (with_reducible assumption) | assumption)
                   obtain ⟨ad540, e540, hx540_0⟩ := Kd.at_int (Kd.R_reads' HO_504001.out).2.2 x12_2 p540 q540
                   cases e540
                   replace p540 := eq_true p540
                   replace q540 := eq_true q540
                   have p82 : 0 ≤ (x12_2 : Int) := of_decide_eq_true (by first | (with_reducible assumption) | assumption)
                   have q82 : (x12_2 : Int) < ((x504001_3.length : Int) : Int) := of_decide_eq_true (by first | (with_reducible assumption) | assumption)
                   obtain ⟨go82, co82, eo82, gb82, gl82, cl82, HG82⟩ := Kd.R_form HO_504001.out (by omega)
                   (first | cases eo82 | (injection eo82 with ea_ en_ ec_; (first | subst ea_ | (injection ea_ with ea_; subst ea_)); subst ec_; clear en_))
                   have GB82 := Aside0.mk gb82
                   have GG82 := Aside0.mk HG82
                   clear gb82 gl82 HG82
                   (first | simp only [add_plain] at hx540_0 | skip)
                   obtain ⟨hx82_0, hf82_0⟩ := Kd.R_celln 0 HO_504001.out (x12_2 : Int) p82 q82
                   replace p82 := eq_true p82
                   replace q82 := eq_true q82
                   have HN0_go82 := Aside0.mk (show g ≠ go82 from by have h_ := IsS72.own_ne HI0.out HO_504001.out (by decide); intro e_; exact h_ (by rw [e_]; rfl))
                   have HP87 := Kd.R_putn HO_504001.out (x12_2 : Int) (Go.bits .or .i64 (rd x504001_3 x12_2) (ji81))
                   rw [← Ny541.out] at HP87
                   have HQ87 := Aside0.mk HP87
                   clear HP87
                   refine start_ (n := 10) (S := fun w' => w'.cell? ⟨gb503, 0, none⟩ = some (.int .i64 t497) ∧ w'.cell? ⟨gb503, 1, none⟩ = some (.slice (some ⟨go82, 0, none⟩) x504001_3.length co86) ∧ w'.cell? ⟨go82, (x12_2).toNat, none⟩ = some (.int .i64 (rd x504001_3 x12_2))) (ds := [9]) #[F,F,F,F,F,F,F,F,F,F] (by kernel_rfl) rfl rfl ⟨(blk_cell BK503.out 0).trans rfl, (blk_cell BK503.out 1).trans rfl, hx540_0⟩ (fun hHeld => ?_); refine with_tabW spec_l1Cur_order.tab20 spec_l1Cur_order.bits20 (fun HT_ HW_ => ?_)
                   generalize w84.drew = w85 at HO_8 HO_9 HO_504001 BK496 BK503 HI0 HK HB GG82 HQ87 hf82_0 hx540_0 hx82_0 hHeld ⊢
                   refine pure_ (i := 0) (N := some 87) (v := ?_) (a' := ?_) #[T,F,F,F,F,F,F,F,F,F] rfl rfl (any_of HT_.out (by kernel_rfl)) (fun _ _ _ h => h) (Or.inl ⟨by rfl, ?_⟩) ?_ ?_
                   rotate_left;·intro w';go_simp;with_reducible rfl
                   rotate_left;·simp only [Act.put, L_,M_,N_, i64_w, i32_w];rfl
                   refine pure_ (i := 2) (N := some 89) (v := ?_) (a' := ?_) #[T,F,T,F,F,F,F,F,F,F] rfl rfl (any_of HT_.out (by kernel_rfl)) (fun _ _ _ h => h) (Or.inl ⟨by rfl, ?_⟩) ?_ ?_
                   rotate_left;·intro w';go_simp;with_reducible rfl
                   rotate_left;·simp only [Act.put, L_,M_,N_, i64_w, i32_w];rfl
                   refine pure_ (i := 5) (N := some 92) (v := ?_) (a' := ?_) #[T,F,T,F,F,T,F,F,F,F] rfl rfl (any_of HT_.out (by kernel_rfl)) (fun _ _ _ h => h) (Or.inl ⟨by rfl, ?_⟩) ?_ ?_
                   rotate_left;·intro w';go_simp;with_reducible rfl
                   rotate_left;·simp only [Act.put, L_,M_,N_, i64_w, i32_w];rfl
                   refine pure_ (i := 6) (N := some 93) (v := ?_) (a' := ?_) #[T,F,T,F,F,T,T,F,F,F] rfl rfl (any_of HT_.out (by kernel_rfl)) (fun _ _ _ h => h) (Or.inl ⟨by rfl, ?_⟩) ?_ ?_
                   rotate_left;·intro w';go_simp;with_reducible rfl
                   rotate_left;·simp only [Act.put, L_,M_,N_, i64_w, i32_w];rfl
                   refine take_ (i := 1) (N := some 88) (v := ?_) (a' := ?_) #[T,T,T,F,F,T,T,F,F,F] rfl rfl (take_ofW HT_.out HW_.out (by kernel_rfl)) (fun _ _ _ h => h) (Or.inl ⟨by rfl, ?_⟩) hHeld ?_ ?_
                   rotate_left
                   ·rintro w' ⟨s0, s1, s2⟩
                    go_simp
                    with_reducible rfl
                   rotate_left;·simp only [Act.put, L_,M_,N_, i64_w, i32_w];rfl
                   refine pure_ (i := 3) (N := some 90) (v := ?_) (a' := ?_) #[T,T,T,T,F,T,T,F,F,F] rfl rfl (any_of HT_.out (by kernel_rfl)) (fun _ _ _ h => h) (Or.inl ⟨by rfl, ?_⟩) ?_ ?_
                   rotate_left;·intro w';go_simp;with_reducible rfl
                   rotate_left;·simp only [Act.put, L_,M_,N_, i64_w, i32_w];rfl
                   refine take_ (i := 4) (N := some 91) (v := ?_) (a' := ?_) #[T,T,T,T,T,T,T,F,F,F] rfl rfl (take_ofW HT_.out HW_.out (by kernel_rfl)) (fun _ _ _ h => h) (Or.inl ⟨by rfl, ?_⟩) hHeld ?_ ?_
                   rotate_left
                   ·rintro w' ⟨s0, s1, s2⟩
                    go_simp
                    with_reducible rfl
                   rotate_left;·simp only [Act.put, L_,M_,N_, i64_w, i32_w];rfl
                   refine pure_ (i := 7) (N := some 94) (v := ?_) (a' := ?_) #[T,T,T,T,T,T,T,T,F,F] rfl rfl (any_of HT_.out (by kernel_rfl)) (fun _ _ _ h => h) (Or.inl ⟨by rfl, ?_⟩) ?_ ?_
                   rotate_left;·intro w';go_simp;with_reducible rfl
                   rotate_left;·simp only [Act.put, L_,M_,N_, i64_w, i32_w];rfl
                   refine pure_ (i := 8) (N := some 95) (v := ?_) (a' := ?_) #[T,T,T,T,T,T,T,T,T,F] rfl rfl (any_of HT_.out (by kernel_rfl)) (fun _ _ _ h => h) (Or.inl ⟨by rfl, ?_⟩) ?_ ?_
                   rotate_left;·intro w';go_simp;with_reducible rfl
                   rotate_left;·simp only [Act.put, L_,M_,N_, i64_w, i32_w];rfl
                   refine last_ (i := 9) (N := none) #[T,T,T,T,T,T,T,T,T,T] rfl rfl (one_of HT_.out (by kernel_rfl)) (by decide) (fun K hK => ?_)
                   refine skip_ (w1 := ?_) (by rfl) rfl ?_ ?_
                   rotate_left
                   ·go_simp
                    rfl
                   refine hK.out _ _ ?_
                   clear hK K
                   refine done_ (done_of HT_.out (by kernel_rfl)) ?_
                   try go_wp2
                   go_roundg k3
                   case measure => have := HK1.out; have := HK2.out; have := HK3.out; omega
                   case rel => exact ⟨(x8_3), (x9_3), (wrap64 (x13_3 + 1)), (t538), (t539), (y541), (.slice (some ⟨go82, 0, none⟩) x504001_3.length co86), (by first | rfl | (simp; done) | (simp [*]; done)), H', ⟨by have := HK1.out; have := HK2.out; have := HK3.out; omega⟩, ⟨by (with_reducible repeat (first | apply Kd.R_alloc | apply Kd.R_drewN | apply Kd.R_drew)); exact Kd.R_mono (Kd.R_far (p := ⟨go82, (x12_2 : Int).toNat, none⟩) (Kd.R_mono HO_8.out (fun k_ hk => (⟨hk, fun e_ => hk.2 (by rw [e_]; rfl)⟩ : _ ∧ k_ ≠ go82))) (fun _ hk => hk.2) (.int .i64 (Go.bits .or .i64 (rd x504001_3 x12_2) (ji81)))) (fun _ hk => ⟨hk.1.1, hk.1.2⟩)⟩, ⟨by (with_reducible repeat (first | apply Kd.R_alloc | apply Kd.R_drewN | apply Kd.R_drew)); exact Kd.R_mono (Kd.R_far (p := ⟨go82, (x12_2 : Int).toNat, none⟩) (Kd.R_mono HO_9.out (fun k_ hk => (⟨hk, fun e_ => hk.2 (by rw [e_]; rfl)⟩ : _ ∧ k_ ≠ go82))) (fun _ hk => hk.2) (.int .i64 (Go.bits .or .i64 (rd x504001_3 x12_2) (ji81)))) (fun _ hk => ⟨hk.1.1, hk.1.2⟩)⟩, ⟨by (with_reducible repeat (first | apply Kd.R_alloc | apply Kd.R_drewN | apply Kd.R_drew)); exact HQ87.out⟩, ⟨by (with_reducible repeat (first | refine blk_drewN ?_ _ | refine blk_drew ?_ | refine blk_alloc ?_ _)); refine blk_far ?_ (by have h_ := Kd.R_ne HO_504001.out BK496.out (by decide); intro e_; exact h_ (by rw [e_]; rfl)) _; (with_reducible repeat (first | refine blk_drewN ?_ _ | refine blk_drew ?_ | refine blk_alloc ?_ _)); exact BK496.out⟩, ⟨by (with_reducible repeat (first | refine blk_drewN ?_ _ | refine blk_drew ?_ | refine blk_alloc ?_ _)); refine blk_far ?_ (by have h_ := Kd.R_ne HO_504001.out BK503.out (by decide); intro e_; exact h_ (by rw [e_]; rfl)) _; (with_reducible repeat (first | refine blk_drewN ?_ _ | refine blk_drew ?_ | refine blk_alloc ?_ _)); exact BK503.out⟩, ⟨by repeat (first | (with_reducible first | exact HI0.out | apply IsS72.alloc | apply IsS72.drewN | apply IsS72.drew | apply IsS72.set_1 | apply IsS72.set_2 | refine IsS72.far ?_ HN0_go82.out _ | refine IsS72.far ?_ NB0_496.out _ | refine IsS72.far ?_ NB0_503.out _) | exact HI0.out)⟩, ⟨by repeat (first | (with_reducible first | exact HK.out | apply KeepBut.set_ | apply keep_drewN | apply keep_drew | apply keep_alloc | refine keep_far ?_ GB82.out _ | refine keep_far ?_ GW496.out _ | refine keep_far ?_ GW503.out _) | exact HK.out)⟩, ⟨by repeat (first | (with_reducible first | exact HB.out | apply below_alloc | apply pw_below_drewN | apply below_drew1 | refine below_set ?_ (Nat.le_trans HL.out GB82.out) | refine below_set ?_ (IsS72.ge HI0.out) | refine below_set ?_ GE496.out | refine below_set ?_ GE503.out) | exact HB.out)⟩⟩
                  ·rw [if_neg c80] at H
                   exact absurd H (by simp)
                 ·rw [if_neg c79] at H
                  exact absurd H (by simp)
                ·rw [if_neg c78] at H
                 exact absurd H (by simp)
               ·replace c77 := Bool.eq_false_iff.mpr c77
                subst c77
                have H1 : (spec_l1Cur_order.l2 k3 t497 t504 x8_3 x9_3 x12_2 (wrap64 (x13_3 + 1)) s0_0 t538 t539 t497 x504001_3) = some (r1, r2, r3, r4) := by rw [if_neg (show ¬ (false = true) by decide)] at H; exact H
                clear H
                have H := H1
                clear H1
                have H' := Aside0.mk H
                clear H
                try go_wp2
                have n0_ := Aside0.mk (Kd.R_drew HO_8.out)
                have n1_ := Aside0.mk (Kd.R_drew HO_9.out)
                have n2_ := Aside0.mk (Kd.R_drew HO_504001.out)
                have n3_ := Aside0.mk (blk_drew BK496.out)
                have n4_ := Aside0.mk (blk_drew BK503.out)
                have n5_ := Aside0.mk (IsS72.drew HI0.out)
                have n6_ := Aside0.mk (keep_drew HK.out)
                have n7_ := Aside0.mk (below_drew1 HB.out)
                clear HO_8
                clear HO_9
                clear HO_504001
                clear BK496
                clear BK503
                clear HI0
                clear HK
                clear HB
                have HO_8 := n0_
                have HO_9 := n1_
                have HO_504001 := n2_
                have BK496 := n3_
                have BK503 := n4_
                have HI0 := n5_
                have HK := n6_
                have HB := n7_
                clear n0_ n1_ n2_ n3_ n4_ n5_ n6_ n7_
                refine start_ (n := 26) (S := fun w' => True) (ds := []) #[F,F,F,F,F,F,F,F,F,F,F,F,F,F,F,F,F,F,F,F,F,F,F,F,F,F] (by kernel_rfl) rfl rfl trivial (fun hHeld => ?_); refine with_tabW spec_l1Cur_order.tab19 spec_l1Cur_order.bits19 (fun HT_ HW_ => ?_)
                generalize wr.drew = w88 at HO_8 HO_9 HO_504001 BK496 BK503 HI0 HK HB hHeld ⊢
                refine pure_ (i := 0) (N := some 61) (v := ?_) (a' := ?_) #[T,F,F,F,F,F,F,F,F,F,F,F,F,F,F,F,F,F,F,F,F,F,F,F,F,F] rfl rfl (any_of HT_.out (by kernel_rfl)) (fun _ _ _ h => h) (Or.inl ⟨by rfl, ?_⟩) ?_ ?_
                rotate_left;·intro w';go_simp;with_reducible rfl
                rotate_left;·simp only [Act.put, L_,M_,N_, i64_w, i32_w];rfl
                refine pure_ (i := 1) (N := some 62) (v := ?_) (a' := ?_) #[T,T,F,F,F,F,F,F,F,F,F,F,F,F,F,F,F,F,F,F,F,F,F,F,F,F] rfl rfl (any_of HT_.out (by kernel_rfl)) (fun _ _ _ h => h) (Or.inl ⟨by rfl, ?_⟩) ?_ ?_
                rotate_left;·intro w';go_simp;with_reducible rfl
                rotate_left;·simp only [Act.put, L_,M_,N_, i64_w, i32_w];rfl
                refine pure_ (i := 2) (N := some 63) (v := ?_) (a' := ?_) #[T,T,T,F,F,F,F,F,F,F,F,F,F,F,F,F,F,F,F,F,F,F,F,F,F,F] rfl rfl (any_of HT_.out (by kernel_rfl)) (fun _ _ _ h => h) (Or.inl ⟨by rfl, ?_⟩) ?_ ?_
                rotate_left;·intro w';go_simp;with_reducible rfl
                rotate_left;·simp only [Act.put, L_,M_,N_, i64_w, i32_w];rfl
                refine pure_ (i := 3) (N := some 64) (v := undef) (a' := ?_) #[T,T,T,T,F,F,F,F,F,F,F,F,F,F,F,F,F,F,F,F,F,F,F,F,F,F] rfl rfl (any_of HT_.out (by kernel_rfl)) (fun _ _ _ h => h) (Or.inr ⟨by rfl, rfl⟩) ?_ ?_
                rotate_left;·simp only [Act.put, L_,M_,N_, i64_w, i32_w];rfl
                refine pure_ (i := 4) (N := some 65) (v := undef) (a' := ?_) #[T,T,T,T,T,F,F,F,F,F,F,F,F,F,F,F,F,F,F,F,F,F,F,F,F,F] rfl rfl (any_of HT_.out (by kernel_rfl)) (fun _ _ _ h => h) (Or.inr ⟨by rfl, rfl⟩) ?_ ?_
                rotate_left;·simp only [Act.put, L_,M_,N_, i64_w, i32_w];rfl
                refine pure_ (i := 5) (N := some 66) (v := undef) (a' := ?_) #[T,T,T,T,T,T,F,F,F,F,F,F,F,F,F,F,F,F,F,F,F,F,F,F,F,F] rfl rfl (any_of HT_.out (by kernel_rfl)) (fun _ _ _ h => h) (Or.inr ⟨by rfl, rfl⟩) ?_ ?_
                rotate_left;·simp only [Act.put, L_,M_,N_, i64_w, i32_w];rfl
                refine pure_ (i := 6) (N := some 67) (v := undef) (a' := ?_) #[T,T,T,T,T,T,T,F,F,F,F,F,F,F,F,F,F,F,F,F,F,F,F,F,F,F] rfl rfl (any_of HT_.out (by kernel_rfl)) (fun _ _ _ h => h) (Or.inr ⟨by rfl, rfl⟩) ?_ ?_
                rotate_left;·simp only [Act.put, L_,M_,N_, i64_w, i32_w];rfl
                refine pure_ (i := 7) (N := some 68) (v := undef) (a' := ?_) #[T,T,T,T,T,T,T,T,F,F,F,F,F,F,F,F,F,F,F,F,F,F,F,F,F,F] rfl rfl (any_of HT_.out (by kernel_rfl)) (fun _ _ _ h => h) (Or.inr ⟨by rfl, rfl⟩) ?_ ?_
                rotate_left;·simp only [Act.put, L_,M_,N_, i64_w, i32_w];rfl
                refine pure_ (i := 8) (N := some 69) (v := undef) (a' := ?_) #[T,T,T,T,T,T,T,T,T,F,F,F,F,F,F,F,F,F,F,F,F,F,F,F,F,F] rfl rfl (any_of HT_.out (by kernel_rfl)) (fun _ _ _ h => h) (Or.inr ⟨by rfl, rfl⟩) ?_ ?_
                rotate_left;·simp only [Act.put, L_,M_,N_, i64_w, i32_w];rfl
                refine pure_ (i := 9) (N := some 70) (v := undef) (a' := ?_) #[T,T,T,T,T,T,T,T,T,T,F,F,F,F,F,F,F,F,F,F,F,F,F,F,F,F] rfl rfl (any_of HT_.out (by kernel_rfl)) (fun _ _ _ h => h) (Or.inr ⟨by rfl, rfl⟩) ?_ ?_
                rotate_left;·simp only [Act.put, L_,M_,N_, i64_w, i32_w];rfl
                refine pure_ (i := 10) (N := some 71) (v := undef) (a' := ?_) #[T,T,T,T,T,T,T,T,T,T,T,F,F,F,F,F,F,F,F,F,F,F,F,F,F,F] rfl rfl (any_of HT_.out (by kernel_rfl)) (fun _ _ _ h => h) (Or.inr ⟨by rfl, rfl⟩) ?_ ?_
                rotate_left;·simp only [Act.put, L_,M_,N_, i64_w, i32_w];rfl
                refine pure_ (i := 11) (N := some 72) (v := undef) (a' := ?_) #[T,T,T,T,T,T,T,T,T,T,T,T,F,F,F,F,F,F,F,F,F,F,F,F,F,F] rfl rfl (any_of HT_.out (by kernel_rfl)) (fun _ _ _ h => h) (Or.inr ⟨by rfl, rfl⟩) ?_ ?_
                rotate_left;·simp only [Act.put, L_,M_,N_, i64_w, i32_w];rfl
                refine pure_ (i := 12) (N := some 73) (v := ?_) (a' := ?_) #[T,T,T,T,T,T,T,T,T,T,T,T,T,F,F,F,F,F,F,F,F,F,F,F,F,F] rfl rfl (any_of HT_.out (by kernel_rfl)) (fun _ _ _ h => h) (Or.inl ⟨by rfl, ?_⟩) ?_ ?_
                rotate_left;·intro w';go_simp;with_reducible rfl
                rotate_left;·simp only [Act.put, L_,M_,N_, i64_w, i32_w];rfl
                refine pure_ (i := 13) (N := some 74) (v := ?_) (a' := ?_) #[T,T,T,T,T,T,T,T,T,T,T,T,T,T,F,F,F,F,F,F,F,F,F,F,F,F] rfl rfl (any_of HT_.out (by kernel_rfl)) (fun _ _ _ h => h) (Or.inl ⟨by rfl, ?_⟩) ?_ ?_
                rotate_left;·intro w';go_simp;with_reducible rfl
                rotate_left;·simp only [Act.put, L_,M_,N_, i64_w, i32_w];rfl
                refine pure_ (i := 14) (N := some 75) (v := ?_) (a' := ?_) #[T,T,T,T,T,T,T,T,T,T,T,T,T,T,T,F,F,F,F,F,F,F,F,F,F,F] rfl rfl (any_of HT_.out (by kernel_rfl)) (fun _ _ _ h => h) (Or.inl ⟨by rfl, ?_⟩) ?_ ?_
                rotate_left;·intro w';go_simp;with_reducible rfl
                rotate_left;·simp only [Act.put, L_,M_,N_, i64_w, i32_w];rfl
                refine pure_ (i := 15) (N := some 76) (v := ?_) (a' := ?_) #[T,T,T,T,T,T,T,T,T,T,T,T,T,T,T,T,F,F,F,F,F,F,F,F,F,F] rfl rfl (any_of HT_.out (by kernel_rfl)) (fun _ _ _ h => h) (Or.inl ⟨by rfl, ?_⟩) ?_ ?_
                rotate_left;·intro w';go_simp;with_reducible rfl
                rotate_left;·simp only [Act.put, L_,M_,N_, i64_w, i32_w];rfl
                refine pure_ (i := 16) (N := some 77) (v := ?_) (a' := ?_) #[T,T,T,T,T,T,T,T,T,T,T,T,T,T,T,T,T,F,F,F,F,F,F,F,F,F] rfl rfl (any_of HT_.out (by kernel_rfl)) (fun _ _ _ h => h) (Or.inl ⟨by rfl, ?_⟩) ?_ ?_
                rotate_left;·intro w';go_simp;with_reducible rfl
                rotate_left;·simp only [Act.put, L_,M_,N_, i64_w, i32_w];rfl
                refine pure_ (i := 17) (N := some 78) (v := ?_) (a' := ?_) #[T,T,T,T,T,T,T,T,T,T,T,T,T,T,T,T,T,T,F,F,F,F,F,F,F,F] rfl rfl (any_of HT_.out (by kernel_rfl)) (fun _ _ _ h => h) (Or.inl ⟨by rfl, ?_⟩) ?_ ?_
                rotate_left;·intro w';go_simp;with_reducible rfl
                rotate_left;·simp only [Act.put, L_,M_,N_, i64_w, i32_w];rfl
                refine pure_ (i := 18) (N := some 79) (v := ?_) (a' := ?_) #[T,T,T,T,T,T,T,T,T,T,T,T,T,T,T,T,T,T,T,F,F,F,F,F,F,F] rfl rfl (any_of HT_.out (by kernel_rfl)) (fun _ _ _ h => h) (Or.inl ⟨by rfl, ?_⟩) ?_ ?_
                rotate_left;·intro w';go_simp;with_reducible rfl
                rotate_left;·simp only [Act.put, L_,M_,N_, i64_w, i32_w];rfl
                refine pure_ (i := 19) (N := some 80) (v := ?_) (a' := ?_) #[T,T,T,T,T,T,T,T,T,T,T,T,T,T,T,T,T,T,T,T,F,F,F,F,F,F] rfl rfl (any_of HT_.out (by kernel_rfl)) (fun _ _ _ h => h) (Or.inl ⟨by rfl, ?_⟩) ?_ ?_
                rotate_left;·intro w';go_simp;with_reducible rfl
                rotate_left;·simp only [Act.put, L_,M_,N_, i64_w, i32_w];rfl
                refine pure_ (i := 20) (N := some 81) (v := ?_) (a' := ?_) #[T,T,T,T,T,T,T,T,T,T,T,T,T,T,T,T,T,T,T,T,T,F,F,F,F,F] rfl rfl (any_of HT_.out (by kernel_rfl)) (fun _ _ _ h => h) (Or.inl ⟨by rfl, ?_⟩) ?_ ?_
                rotate_left;·intro w';go_simp;with_reducible rfl
                rotate_left;·simp only [Act.put, L_,M_,N_, i64_w, i32_w];rfl
                refine pure_ (i := 21) (N := some 82) (v := ?_) (a' := ?_) #[T,T,T,T,T,T,T,T,T,T,T,T,T,T,T,T,T,T,T,T,T,T,F,F,F,F] rfl rfl (any_of HT_.out (by kernel_rfl)) (fun _ _ _ h => h) (Or.inl ⟨by rfl, ?_⟩) ?_ ?_
                rotate_left;·intro w';go_simp;with_reducible rfl
                rotate_left;·simp only [Act.put, L_,M_,N_, i64_w, i32_w];rfl
                refine pure_ (i := 22) (N := some 83) (v := ?_) (a' := ?_) #[T,T,T,T,T,T,T,T,T,T,T,T,T,T,T,T,T,T,T,T,T,T,T,F,F,F] rfl rfl (any_of HT_.out (by kernel_rfl)) (fun _ _ _ h => h) (Or.inl ⟨by rfl, ?_⟩) ?_ ?_
                rotate_left;·intro w';go_simp;with_reducible rfl
                rotate_left;·simp only [Act.put, L_,M_,N_, i64_w, i32_w];rfl
                refine one_ (i := 23) (N := some 84) #[T,T,T,T,T,T,T,T,T,T,T,T,T,T,T,T,T,T,T,T,T,T,T,T,F,F] rfl rfl (one_of HT_.out (by kernel_rfl)) (by decide) (fun K hK => ?_)
                refine goes_ Tryd.func109 (by kernel_rfl) rfl #[.pointer (some ⟨g, 0, none⟩), .int .i64 3] (by rfl) rfl rfl (by (try simp only [List.map_toArray, List.map_cons, List.map_nil]); first | done | rfl | (simp only [List.length_drop, List.length_take]; rfl)) ?_
                with_reducible refine (spec_l1Cur_one.calls g s0_0 x1001_3 x1002_3 3 false t538 t539 w0 _ ?side1 ?side2 A76.out).mono ?_
                (case side1 => repeat (first | (with_reducible first | exact HI0.out | apply IsS72.alloc | apply IsS72.drewN | apply IsS72.drew | apply IsS72.set_1 | apply IsS72.set_2 | refine IsS72.far ?_ NB0_496.out _ | refine IsS72.far ?_ NB0_503.out _) | exact HI0.out))
                (case side2 => repeat (first | (with_reducible first | exact HB.out | apply below_alloc | apply pw_below_drewN | apply below_drew1 | refine below_set ?_ (IsS72.ge HI0.out) | refine below_set ?_ GE496.out | refine below_set ?_ GE503.out) | exact HB.out))
                rintro e w89 ⟨rfl, hi, hb, hk⟩
                refine ⟨_, rfl, ?_⟩
                have n0_ := Aside0.mk (Kd.R_mono (Kd.R_keep (IsS72.apart (show IsS72 w0 _ g s0_0 x1001_3 x1002_3 from by repeat (first | (with_reducible first | exact HI0.out | apply IsS72.alloc | apply IsS72.drewN | apply IsS72.drew | apply IsS72.set_1 | apply IsS72.set_2 | refine IsS72.far ?_ NB0_496.out _ | refine IsS72.far ?_ NB0_503.out _) | exact HI0.out)) (by (with_reducible repeat (first | apply Kd.R_alloc | apply Kd.R_drewN | apply Kd.R_drew)); exact HO_8.out) (by decide)) hk (fun _ h => h.2)) (fun _ h => h.1))
                have n1_ := Aside0.mk (Kd.R_mono (Kd.R_keep (IsS72.apart (show IsS72 w0 _ g s0_0 x1001_3 x1002_3 from by repeat (first | (with_reducible first | exact HI0.out | apply IsS72.alloc | apply IsS72.drewN | apply IsS72.drew | apply IsS72.set_1 | apply IsS72.set_2 | refine IsS72.far ?_ NB0_496.out _ | refine IsS72.far ?_ NB0_503.out _) | exact HI0.out)) (by (with_reducible repeat (first | apply Kd.R_alloc | apply Kd.R_drewN | apply Kd.R_drew)); exact HO_9.out) (by decide)) hk (fun _ h => h.2)) (fun _ h => h.1))
                have n2_ := Aside0.mk (Kd.R_mono (Kd.R_keep (IsS72.apart (show IsS72 w0 _ g s0_0 x1001_3 x1002_3 from by repeat (first | (with_reducible first | exact HI0.out | apply IsS72.alloc | apply IsS72.drewN | apply IsS72.drew | apply IsS72.set_1 | apply IsS72.set_2 | refine IsS72.far ?_ NB0_496.out _ | refine IsS72.far ?_ NB0_503.out _) | exact HI0.out)) (by (with_reducible repeat (first | apply Kd.R_alloc | apply Kd.R_drewN | apply Kd.R_drew)); exact HO_504001.out) (by decide)) hk (fun _ h => h.2)) (fun _ h => h.1))
                have n3_ := Aside0.mk (KeepBut.blk hk (g' := gb496) (o := .cells #[.int .i64 0, .slice none 0 0] 26 (0, 0)) (by (with_reducible repeat (first | refine blk_drewN ?_ _ | refine blk_drew ?_ | refine blk_alloc ?_ _)); exact BK496.out) NB496_0.out (by simp))
                have n4_ := Aside0.mk (KeepBut.blk hk (g' := gb503) (o := .cells #[.int .i64 t497, u504001] 26 (0, 0)) (by (with_reducible repeat (first | refine blk_drewN ?_ _ | refine blk_drew ?_ | refine blk_alloc ?_ _)); exact BK503.out) NB503_0.out (by simp))
                have n5_ := Aside0.mk (KeepBut.trans (by repeat (first | (with_reducible first | exact HK.out | apply KeepBut.set_ | apply keep_drewN | apply keep_drew | apply keep_alloc | refine keep_far ?_ GW496.out _ | refine keep_far ?_ GW503.out _) | exact HK.out)) hk (.inl rfl))
                have n6_ := Aside0.mk (hb)
                have n7_ := Aside0.mk (hi)
                clear HO_8
                clear HO_9
                clear HO_504001
                clear BK496
                clear BK503
                clear HK
                clear HB
                clear HI0
                have HO_8 := n0_
                have HO_9 := n1_
                have HO_504001 := n2_
                have BK496 := n3_
                have BK503 := n4_
                have HK := n5_
                have HB := n6_
                have HI0 := n7_
                clear n0_ n1_ n2_ n3_ n4_ n5_ n6_ n7_
                (try clear hb)
                (try clear hb2)
                (try clear hk)
                (try clear hi)
                refine hK.out _ _ trivial (fun hHeld => ?_)
                clear hK K
                refine norm_ (a' := ?_) ?_ ?_
                rotate_left
                ·show Act.put _ (some 84) _ = _
                 simp only [Act.put, L_,M_,N_, i64_w, i32_w]
                 rfl
                refine pure_ (i := 24) (N := some 85) (v := ?_) (a' := ?_) #[T,T,T,T,T,T,T,T,T,T,T,T,T,T,T,T,T,T,T,T,T,T,T,T,T,F] rfl rfl (any_of HT_.out (by kernel_rfl)) (fun _ _ _ h => h) (Or.inl ⟨by rfl, ?_⟩) ?_ ?_
                rotate_left;·intro w';go_simp;with_reducible rfl
                rotate_left;·simp only [Act.put, L_,M_,N_, i64_w, i32_w];rfl
                refine pure_ (i := 25) (N := some 86) (v := ?_) (a' := ?_) #[T,T,T,T,T,T,T,T,T,T,T,T,T,T,T,T,T,T,T,T,T,T,T,T,T,T] rfl rfl (any_of HT_.out (by kernel_rfl)) (fun _ _ _ h => h) (Or.inl ⟨by rfl, ?_⟩) ?_ ?_
                rotate_left;·intro w';go_simp;with_reducible rfl
                rotate_left;·simp only [Act.put, L_,M_,N_, i64_w, i32_w];rfl
                refine done_ (done_of HT_.out (by kernel_rfl)) ?_
                try go_wp2
                go_roundg k3
                case measure => have := HK1.out; have := HK2.out; have := HK3.out; omega
                case rel => exact ⟨(x8_3), (x9_3), (wrap64 (x13_3 + 1)), (t538), (t539), (x504001_3), (u504001), (by first | rfl | (simp; done) | (simp [*]; done)), H', ⟨by have := HK1.out; have := HK2.out; have := HK3.out; omega⟩, ⟨by (with_reducible repeat (first | apply Kd.R_alloc | apply Kd.R_drewN | apply Kd.R_drew)); exact HO_8.out⟩, ⟨by (with_reducible repeat (first | apply Kd.R_alloc | apply Kd.R_drewN | apply Kd.R_drew)); exact HO_9.out⟩, ⟨by (with_reducible repeat (first | apply Kd.R_alloc | apply Kd.R_drewN | apply Kd.R_drew)); exact HO_504001.out⟩, ⟨by (with_reducible repeat (first | refine blk_drewN ?_ _ | refine blk_drew ?_ | refine blk_alloc ?_ _)); exact BK496.out⟩, ⟨by (with_reducible repeat (first | refine blk_drewN ?_ _ | refine blk_drew ?_ | refine blk_alloc ?_ _)); exact BK503.out⟩, ⟨by repeat (first | (with_reducible first | exact HI0.out | apply IsS72.alloc | apply IsS72.drewN | apply IsS72.drew | apply IsS72.set_1 | apply IsS72.set_2 | refine IsS72.far ?_ NB0_496.out _ | refine IsS72.far ?_ NB0_503.out _) | exact HI0.out)⟩, ⟨by repeat (first | (with_reducible first | exact HK.out | apply KeepBut.set_ | apply keep_drewN | apply keep_drew | apply keep_alloc | refine keep_far ?_ GW496.out _ | refine keep_far ?_ GW503.out _) | exact HK.out)⟩, ⟨by repeat (first | (with_reducible first | exact HB.out | apply below_alloc | apply pw_below_drewN | apply below_drew1 | refine below_set ?_ (IsS72.ge HI0.out) | refine below_set ?_ GE496.out | refine below_set ?_ GE503.out) | exact HB.out)⟩⟩
              ·rw [if_neg c75] at H
               have c75b0 : decide (x12_2 < x13_3) = false := decide_eq_false c75
               clear c75
               have H' := Aside0.mk H
               clear H
               try go_wp2
               have n0_ := Aside0.mk (Kd.R_drew HO_8.out)
               have n1_ := Aside0.mk (Kd.R_drew HO_9.out)
               have n2_ := Aside0.mk (Kd.R_drew HO_504001.out)
               have n3_ := Aside0.mk (blk_drew BK496.out)
               have n4_ := Aside0.mk (blk_drew BK503.out)
               have n5_ := Aside0.mk (IsS72.drew HI0.out)
               have n6_ := Aside0.mk (keep_drew HK.out)
               have n7_ := Aside0.mk (below_drew1 HB.out)
               clear HO_8
               clear HO_9
               clear HO_504001
               clear BK496
               clear BK503
               clear HI0
               clear HK
               clear HB
               have HO_8 := n0_
               have HO_9 := n1_
               have HO_504001 := n2_
               have BK496 := n3_
               have BK503 := n4_
               have HI0 := n5_
               have HK := n6_
               have HB := n7_
               clear n0_ n1_ n2_ n3_ n4_ n5_ n6_ n7_
               refine start_ (n := 26) (S := fun w' => True) (ds := []) #[F,F,F,F,F,F,F,F,F,F,F,F,F,F,F,F,F,F,F,F,F,F,F,F,F,F] (by kernel_rfl) rfl rfl trivial (fun hHeld => ?_); refine with_tabW spec_l1Cur_order.tab19 spec_l1Cur_order.bits19 (fun HT_ HW_ => ?_)
               generalize wr.drew = w90 at HO_8 HO_9 HO_504001 BK496 BK503 HI0 HK HB hHeld ⊢
               refine pure_ (i := 0) (N := some 61) (v := ?_) (a' := ?_) #[T,F,F,F,F,F,F,F,F,F,F,F,F,F,F,F,F,F,F,F,F,F,F,F,F,F] rfl rfl (any_of HT_.out (by kernel_rfl)) (fun _ _ _ h => h) (Or.inl ⟨by rfl, ?_⟩) ?_ ?_
               rotate_left;·intro w';go_simp;with_reducible rfl
               rotate_left;·simp only [Act.put, L_,M_,N_, i64_w, i32_w];rfl
               refine pure_ (i := 1) (N := some 62) (v := ?_) (a' := ?_) #[T,T,F,F,F,F,F,F,F,F,F,F,F,F,F,F,F,F,F,F,F,F,F,F,F,F] rfl rfl (any_of HT_.out (by kernel_rfl)) (fun _ _ _ h => h) (Or.inl ⟨by rfl, ?_⟩) ?_ ?_
               rotate_left;·intro w';go_simp;with_reducible rfl
               rotate_left;·simp only [Act.put, L_,M_,N_, i64_w, i32_w];rfl
               refine pure_ (i := 2) (N := some 63) (v := ?_) (a' := ?_) #[T,T,T,F,F,F,F,F,F,F,F,F,F,F,F,F,F,F,F,F,F,F,F,F,F,F] rfl rfl (any_of HT_.out (by kernel_rfl)) (fun _ _ _ h => h) (Or.inl ⟨by rfl, ?_⟩) ?_ ?_
               rotate_left;·intro w';go_simp;with_reducible rfl
               rotate_left;·simp only [Act.put, L_,M_,N_, i64_w, i32_w];rfl
               refine pure_ (i := 3) (N := some 64) (v := undef) (a' := ?_) #[T,T,T,T,F,F,F,F,F,F,F,F,F,F,F,F,F,F,F,F,F,F,F,F,F,F] rfl rfl (any_of HT_.out (by kernel_rfl)) (fun _ _ _ h => h) (Or.inr ⟨by rfl, rfl⟩) ?_ ?_
               rotate_left;·simp only [Act.put, L_,M_,N_, i64_w, i32_w];rfl
               refine pure_ (i := 4) (N := some 65) (v := undef) (a' := ?_) #[T,T,T,T,T,F,F,F,F,F,F,F,F,F,F,F,F,F,F,F,F,F,F,F,F,F] rfl rfl (any_of HT_.out (by kernel_rfl)) (fun _ _ _ h => h) (Or.inr ⟨by rfl, rfl⟩) ?_ ?_
               rotate_left;·simp only [Act.put, L_,M_,N_, i64_w, i32_w];rfl
               refine pure_ (i := 5) (N := some 66) (v := undef) (a' := ?_) #[T,T,T,T,T,T,F,F,F,F,F,F,F,F,F,F,F,F,F,F,F,F,F,F,F,F] rfl rfl (any_of HT_.out (by kernel_rfl)) (fun _ _ _ h => h) (Or.inr ⟨by rfl, rfl⟩) ?_ ?_
               rotate_left;·simp only [Act.put, L_,M_,N_, i64_w, i32_w];rfl
               refine pure_ (i := 6) (N := some 67) (v := undef) (a' := ?_) #[T,T,T,T,T,T,T,F,F,F,F,F,F,F,F,F,F,F,F,F,F,F,F,F,F,F] rfl rfl (any_of HT_.out (by kernel_rfl)) (fun _ _ _ h => h) (Or.inr ⟨by rfl, rfl⟩) ?_ ?_
               rotate_left;·simp only [Act.put, L_,M_,N_, i64_w, i32_w];rfl
               refine pure_ (i := 7) (N := some 68) (v := undef) (a' := ?_) #[T,T,T,T,T,T,T,T,F,F,F,F,F,F,F,F,F,F,F,F,F,F,F,F,F,F] rfl rfl (any_of HT_.out (by kernel_rfl)) (fun _ _ _ h => h) (Or.inr ⟨by rfl, rfl⟩) ?_ ?_
               rotate_left;·simp only [Act.put, L_,M_,N_, i64_w, i32_w];rfl
               refine pure_ (i := 8) (N := some 69) (v := undef) (a' := ?_) #[T,T,T,T,T,T,T,T,T,F,F,F,F,F,F,F,F,F,F,F,F,F,F,F,F,F] rfl rfl (any_of HT_.out (by kernel_rfl)) (fun _ _ _ h => h) (Or.inr ⟨by rfl, rfl⟩) ?_ ?_
               rotate_left;·simp only [Act.put, L_,M_,N_, i64_w, i32_w];rfl
               refine pure_ (i := 9) (N := some 70) (v := undef) (a' := ?_) #[T,T,T,T,T,T,T,T,T,T,F,F,F,F,F,F,F,F,F,F,F,F,F,F,F,F] rfl rfl (any_of HT_.out (by kernel_rfl)) (fun _ _ _ h => h) (Or.inr ⟨by rfl, rfl⟩) ?_ ?_
               rotate_left;·simp only [Act.put, L_,M_,N_, i64_w, i32_w];rfl
               refine pure_ (i := 10) (N := some 71) (v := undef) (a' := ?_) #[T,T,T,T,T,T,T,T,T,T,T,F,F,F,F,F,F,F,F,F,F,F,F,F,F,F] rfl rfl (any_of HT_.out (by kernel_rfl)) (fun _ _ _ h => h) (Or.inr ⟨by rfl, rfl⟩) ?_ ?_
               rotate_left;·simp only [Act.put, L_,M_,N_, i64_w, i32_w];rfl
               refine pure_ (i := 11) (N := some 72) (v := undef) (a' := ?_) #[T,T,T,T,T,T,T,T,T,T,T,T,F,F,F,F,F,F,F,F,F,F,F,F,F,F] rfl rfl (any_of HT_.out (by kernel_rfl)) (fun _ _ _ h => h) (Or.inr ⟨by rfl, rfl⟩) ?_ ?_
               rotate_left;·simp only [Act.put, L_,M_,N_, i64_w, i32_w];rfl
               refine pure_ (i := 12) (N := some 73) (v := ?_) (a' := ?_) #[T,T,T,T,T,T,T,T,T,T,T,T,T,F,F,F,F,F,F,F,F,F,F,F,F,F] rfl rfl (any_of HT_.out (by kernel_rfl)) (fun _ _ _ h => h) (Or.inl ⟨by rfl, ?_⟩) ?_ ?_
               rotate_left;·intro w';go_simp;with_reducible rfl
               rotate_left;·simp only [Act.put, L_,M_,N_, i64_w, i32_w];rfl
               refine pure_ (i := 13) (N := some 74) (v := ?_) (a' := ?_) #[T,T,T,T,T,T,T,T,T,T,T,T,T,T,F,F,F,F,F,F,F,F,F,F,F,F] rfl rfl (any_of HT_.out (by kernel_rfl)) (fun _ _ _ h => h) (Or.inl ⟨by rfl, ?_⟩) ?_ ?_
               rotate_left;·intro w';go_simp;with_reducible rfl
               rotate_left;·simp only [Act.put, L_,M_,N_, i64_w, i32_w];rfl
               refine pure_ (i := 14) (N := some 75) (v := ?_) (a' := ?_) #[T,T,T,T,T,T,T,T,T,T,T,T,T,T,T,F,F,F,F,F,F,F,F,F,F,F] rfl rfl (any_of HT_.out (by kernel_rfl)) (fun _ _ _ h => h) (Or.inl ⟨by rfl, ?_⟩) ?_ ?_
               rotate_left;·intro w';go_simp;with_reducible rfl
               rotate_left;·simp only [Act.put, L_,M_,N_, i64_w, i32_w];rfl
               refine pure_ (i := 15) (N := some 76) (v := ?_) (a' := ?_) #[T,T,T,T,T,T,T,T,T,T,T,T,T,T,T,T,F,F,F,F,F,F,F,F,F,F] rfl rfl (any_of HT_.out (by kernel_rfl)) (fun _ _ _ h => h) (Or.inl ⟨by rfl, ?_⟩) ?_ ?_
               rotate_left;·intro w';go_simp;with_reducible rfl
               rotate_left;·simp only [Act.put, L_,M_,N_, i64_w, i32_w];rfl
               refine pure_ (i := 16) (N := some 77) (v := ?_) (a' := ?_) #[T,T,T,T,T,T,T,T,T,T,T,T,T,T,T,T,T,F,F,F,F,F,F,F,F,F] rfl rfl (any_of HT_.out (by kernel_rfl)) (fun _ _ _ h => h) (Or.inl ⟨by rfl, ?_⟩) ?_ ?_
               rotate_left;·intro w';go_simp;with_reducible rfl
               rotate_left;·simp only [Act.put, L_,M_,N_, i64_w, i32_w];rfl
               refine pure_ (i := 17) (N := some 78) (v := ?_) (a' := ?_) #[T,T,T,T,T,T,T,T,T,T,T,T,T,T,T,T,T,T,F,F,F,F,F,F,F,F] rfl rfl (any_of HT_.out (by kernel_rfl)) (fun _ _ _ h => h) (Or.inl ⟨by rfl, ?_⟩) ?_ ?_
               rotate_left;·intro w';go_simp;with_reducible rfl
               rotate_left;·simp only [Act.put, L_,M_,N_, i64_w, i32_w];rfl
               refine pure_ (i := 18) (N := some 79) (v := ?_) (a' := ?_) #[T,T,T,T,T,T,T,T,T,T,T,T,T,T,T,T,T,T,T,F,F,F,F,F,F,F] rfl rfl (any_of HT_.out (by kernel_rfl)) (fun _ _ _ h => h) (Or.inl ⟨by rfl, ?_⟩) ?_ ?_
               rotate_left;·intro w';go_simp;with_reducible rfl
               rotate_left;·simp only [Act.put, L_,M_,N_, i64_w, i32_w];rfl
               refine pure_ (i := 19) (N := some 80) (v := ?_) (a' := ?_) #[T,T,T,T,T,T,T,T,T,T,T,T,T,T,T,T,T,T,T,T,F,F,F,F,F,F] rfl rfl (any_of HT_.out (by kernel_rfl)) (fun _ _ _ h => h) (Or.inl ⟨by rfl, ?_⟩) ?_ ?_
               rotate_left;·intro w';go_simp;with_reducible rfl
               rotate_left;·simp only [Act.put, L_,M_,N_, i64_w, i32_w];rfl
               refine pure_ (i := 20) (N := some 81) (v := ?_) (a' := ?_) #[T,T,T,T,T,T,T,T,T,T,T,T,T,T,T,T,T,T,T,T,T,F,F,F,F,F] rfl rfl (any_of HT_.out (by kernel_rfl)) (fun _ _ _ h => h) (Or.inl ⟨by rfl, ?_⟩) ?_ ?_
               rotate_left;·intro w';go_simp;with_reducible rfl
               rotate_left;·simp only [Act.put, L_,M_,N_, i64_w, i32_w];rfl
               refine pure_ (i := 21) (N := some 82) (v := ?_) (a' := ?_) #[T,T,T,T,T,T,T,T,T,T,T,T,T,T,T,T,T,T,T,T,T,T,F,F,F,F] rfl rfl (any_of HT_.out (by kernel_rfl)) (fun _ _ _ h => h) (Or.inl ⟨by rfl, ?_⟩) ?_ ?_
               rotate_left;·intro w';go_simp;with_reducible rfl
               rotate_left;·simp only [Act.put, L_,M_,N_, i64_w, i32_w];rfl
               refine pure_ (i := 22) (N := some 83) (v := undef) (a' := ?_) #[T,T,T,T,T,T,T,T,T,T,T,T,T,T,T,T,T,T,T,T,T,T,T,F,F,F] rfl rfl (any_of HT_.out (by kernel_rfl)) (fun _ _ _ h => h) (Or.inr ⟨by rfl, rfl⟩) ?_ ?_
               rotate_left;·simp only [Act.put, L_,M_,N_, i64_w, i32_w];rfl
               refine pure_ (i := 23) (N := some 84) (v := undef) (a' := ?_) #[T,T,T,T,T,T,T,T,T,T,T,T,T,T,T,T,T,T,T,T,T,T,T,T,F,F] rfl rfl (any_of HT_.out (by kernel_rfl)) (fun _ _ _ h => h) (Or.inr ⟨by rfl, rfl⟩) ?_ ?_
               rotate_left;·simp only [Act.put, L_,M_,N_, i64_w, i32_w];rfl
               refine pure_ (i := 24) (N := some 85) (v := ?_) (a' := ?_) #[T,T,T,T,T,T,T,T,T,T,T,T,T,T,T,T,T,T,T,T,T,T,T,T,T,F] rfl rfl (any_of HT_.out (by kernel_rfl)) (fun _ _ _ h => h) (Or.inl ⟨by rfl, ?_⟩) ?_ ?_
               rotate_left;·intro w';go_simp;with_reducible rfl
               rotate_left;·simp only [Act.put, L_,M_,N_, i64_w, i32_w];rfl
               refine pure_ (i := 25) (N := some 86) (v := ?_) (a' := ?_) #[T,T,T,T,T,T,T,T,T,T,T,T,T,T,T,T,T,T,T,T,T,T,T,T,T,T] rfl rfl (any_of HT_.out (by kernel_rfl)) (fun _ _ _ h => h) (Or.inl ⟨by rfl, ?_⟩) ?_ ?_
               rotate_left;·intro w';go_simp;with_reducible rfl
               rotate_left;·simp only [Act.put, L_,M_,N_, i64_w, i32_w];rfl
               refine done_ (done_of HT_.out (by kernel_rfl)) ?_
               try go_wp2
               go_roundg k3
               case measure => have := HK1.out; have := HK2.out; have := HK3.out; omega
               case rel => exact ⟨(x8_3), (x9_3), (wrap64 (x13_3 + 1)), (x1001_3), (x1002_3), (x504001_3), (u504001), (by first | rfl | (simp; done) | (simp [*]; done)), H', ⟨by have := HK1.out; have := HK2.out; have := HK3.out; omega⟩, ⟨by (with_reducible repeat (first | apply Kd.R_alloc | apply Kd.R_drewN | apply Kd.R_drew)); exact HO_8.out⟩, ⟨by (with_reducible repeat (first | apply Kd.R_alloc | apply Kd.R_drewN | apply Kd.R_drew)); exact HO_9.out⟩, ⟨by (with_reducible repeat (first | apply Kd.R_alloc | apply Kd.R_drewN | apply Kd.R_drew)); exact HO_504001.out⟩, ⟨by (with_reducible repeat (first | refine blk_drewN ?_ _ | refine blk_drew ?_ | refine blk_alloc ?_ _)); exact BK496.out⟩, ⟨by (with_reducible repeat (first | refine blk_drewN ?_ _ | refine blk_drew ?_ | refine blk_alloc ?_ _)); exact BK503.out⟩, ⟨by repeat (first | (with_reducible first | exact HI0.out | apply IsS72.alloc | apply IsS72.drewN | apply IsS72.drew | apply IsS72.set_1 | apply IsS72.set_2 | refine IsS72.far ?_ NB0_496.out _ | refine IsS72.far ?_ NB0_503.out _) | exact HI0.out)⟩, ⟨by repeat (first | (with_reducible first | exact HK.out | apply KeepBut.set_ | apply keep_drewN | apply keep_drew | apply keep_alloc | refine keep_far ?_ GW496.out _ | refine keep_far ?_ GW503.out _) | exact HK.out)⟩, ⟨by repeat (first | (with_reducible first | exact HB.out | apply below_alloc | apply pw_below_drewN | apply below_drew1 | refine below_set ?_ (IsS72.ge HI0.out) | refine below_set ?_ GE496.out | refine below_set ?_ GE503.out) | exact HB.out)⟩⟩
             ·rw [if_neg c74] at H
              have c74b0 : (t504 == 0) = false := beq_eq_false_iff_ne.mpr c74
              have c74b1 : (t504 != 0) = true := bne_iff_ne.mpr c74
              have H' := Aside0.mk H
              clear H
              try go_wp2
              have n0_ := Aside0.mk (Kd.R_drew HO_8.out)
              have n1_ := Aside0.mk (Kd.R_drew HO_9.out)
              have n2_ := Aside0.mk (Kd.R_drew HO_504001.out)
              have n3_ := Aside0.mk (blk_drew BK496.out)
              have n4_ := Aside0.mk (blk_drew BK503.out)
              have n5_ := Aside0.mk (IsS72.drew HI0.out)
              have n6_ := Aside0.mk (keep_drew HK.out)
              have n7_ := Aside0.mk (below_drew1 HB.out)
              clear HO_8
              clear HO_9
              clear HO_504001
              clear BK496
              clear BK503
              clear HI0
              clear HK
              clear HB
              have HO_8 := n0_
              have HO_9 := n1_
              have HO_504001 := n2_
              have BK496 := n3_
              have BK503 := n4_
              have HI0 := n5_
              have HK := n6_
              have HB := n7_
              clear n0_ n1_ n2_ n3_ n4_ n5_ n6_ n7_
              refine start_ (n := 26) (S := fun w' => True) (ds := []) #[F,F,F,F,F,F,F,F,F,F,F,F,F,F,F,F,F,F,F,F,F,F,F,F,F,F] (by kernel_rfl) rfl rfl trivial (fun hHeld => ?_); refine with_tabW spec_l1Cur_order.tab19 spec_l1Cur_order.bits19 (fun HT_ HW_ => ?_)
              generalize wr.drew = w91 at HO_8 HO_9 HO_504001 BK496 BK503 HI0 HK HB hHeld ⊢
              refine pure_ (i := 0) (N := some 61) (v := ?_) (a' := ?_) #[T,F,F,F,F,F,F,F,F,F,F,F,F,F,F,F,F,F,F,F,F,F,F,F,F,F] rfl rfl (any_of HT_.out (by kernel_rfl)) (fun _ _ _ h => h) (Or.inl ⟨by rfl, ?_⟩) ?_ ?_
              rotate_left;·intro w';go_simp;with_reducible rfl
              rotate_left;·simp only [Act.put, L_,M_,N_, i64_w, i32_w];rfl
              refine pure_ (i := 1) (N := some 62) (v := ?_) (a' := ?_) #[T,T,F,F,F,F,F,F,F,F,F,F,F,F,F,F,F,F,F,F,F,F,F,F,F,F] rfl rfl (any_of HT_.out (by kernel_rfl)) (fun _ _ _ h => h) (Or.inl ⟨by rfl, ?_⟩) ?_ ?_
              rotate_left;·intro w';go_simp;with_reducible rfl
              rotate_left;·simp only [Act.put, L_,M_,N_, i64_w, i32_w];rfl
              refine pure_ (i := 2) (N := some 63) (v := ?_) (a' := ?_) #[T,T,T,F,F,F,F,F,F,F,F,F,F,F,F,F,F,F,F,F,F,F,F,F,F,F] rfl rfl (any_of HT_.out (by kernel_rfl)) (fun _ _ _ h => h) (Or.inl ⟨by rfl, ?_⟩) ?_ ?_
              rotate_left;·intro w';go_simp;with_reducible rfl
              rotate_left;·simp only [Act.put, L_,M_,N_, i64_w, i32_w];rfl
              refine pure_ (i := 3) (N := some 64) (v := undef) (a' := ?_) #[T,T,T,T,F,F,F,F,F,F,F,F,F,F,F,F,F,F,F,F,F,F,F,F,F,F] rfl rfl (any_of HT_.out (by kernel_rfl)) (fun _ _ _ h => h) (Or.inr ⟨by rfl, rfl⟩) ?_ ?_
              rotate_left;·simp only [Act.put, L_,M_,N_, i64_w, i32_w];rfl
              refine pure_ (i := 4) (N := some 65) (v := undef) (a' := ?_) #[T,T,T,T,T,F,F,F,F,F,F,F,F,F,F,F,F,F,F,F,F,F,F,F,F,F] rfl rfl (any_of HT_.out (by kernel_rfl)) (fun _ _ _ h => h) (Or.inr ⟨by rfl, rfl⟩) ?_ ?_
              rotate_left;·simp only [Act.put, L_,M_,N_, i64_w, i32_w];rfl
              refine pure_ (i := 5) (N := some 66) (v := undef) (a' := ?_) #[T,T,T,T,T,T,F,F,F,F,F,F,F,F,F,F,F,F,F,F,F,F,F,F,F,F] rfl rfl (any_of HT_.out (by kernel_rfl)) (fun _ _ _ h => h) (Or.inr ⟨by rfl, rfl⟩) ?_ ?_
              rotate_left;·simp only [Act.put, L_,M_,N_, i64_w, i32_w];rfl
              refine pure_ (i := 6) (N := some 67) (v := undef) (a' := ?_) #[T,T,T,T,T,T,T,F,F,F,F,F,F,F,F,F,F,F,F,F,F,F,F,F,F,F] rfl rfl (any_of HT_.out (by kernel_rfl)) (fun _ _ _ h => h) (Or.inr ⟨by rfl, rfl⟩) ?_ ?_
              rotate_left;·simp only [Act.put, L_,M_,N_, i64_w, i32_w];rfl
              refine pure_ (i := 7) (N := some 68) (v := undef) (a' := ?_) #[T,T,T,T,T,T,T,T,F,F,F,F,F,F,F,F,F,F,F,F,F,F,F,F,F,F] rfl rfl (any_of HT_.out (by kernel_rfl)) (fun _ _ _ h => h) (Or.inr ⟨by rfl, rfl⟩) ?_ ?_
              rotate_left;·simp only [Act.put, L_,M_,N_, i64_w, i32_w];rfl
              refine pure_ (i := 8) (N := some 69) (v := undef) (a' := ?_) #[T,T,T,T,T,T,T,T,T,F,F,F,F,F,F,F,F,F,F,F,F,F,F,F,F,F] rfl rfl (any_of HT_.out (by kernel_rfl)) (fun _ _ _ h => h) (Or.inr ⟨by rfl, rfl⟩) ?_ ?_
              rotate_left;·simp only [Act.put, L_,M_,N_, i64_w, i32_w];rfl
              refine pure_ (i := 9) (N := some 70) (v := undef) (a' := ?_) #[T,T,T,T,T,T,T,T,T,T,F,F,F,F,F,F,F,F,F,F,F,F,F,F,F,F] rfl rfl (any_of HT_.out (by kernel_rfl)) (fun _ _ _ h => h) (Or.inr ⟨by rfl, rfl⟩) ?_ ?_
              rotate_left;·simp only [Act.put, L_,M_,N_, i64_w, i32_w];rfl
              refine pure_ (i := 10) (N := some 71) (v := undef) (a' := ?_) #[T,T,T,T,T,T,T,T,T,T,T,F,F,F,F,F,F,F,F,F,F,F,F,F,F,F] rfl rfl (any_of HT_.out (by kernel_rfl)) (fun _ _ _ h => h) (Or.inr ⟨by rfl, rfl⟩) ?_ ?_
              rotate_left;·simp only [Act.put, L_,M_,N_, i64_w, i32_w];rfl
              refine pure_ (i := 11) (N := some 72) (v := undef) (a' := ?_) #[T,T,T,T,T,T,T,T,T,T,T,T,F,F,F,F,F,F,F,F,F,F,F,F,F,F] rfl rfl (any_of HT_.out (by kernel_rfl)) (fun _ _ _ h => h) (Or.inr ⟨by rfl, rfl⟩) ?_ ?_
              rotate_left;·simp only [Act.put, L_,M_,N_, i64_w, i32_w];rfl
              refine pure_ (i := 12) (N := some 73) (v := ?_) (a' := ?_) #[T,T,T,T,T,T,T,T,T,T,T,T,T,F,F,F,F,F,F,F,F,F,F,F,F,F] rfl rfl (any_of HT_.out (by kernel_rfl)) (fun _ _ _ h => h) (Or.inl ⟨by rfl, ?_⟩) ?_ ?_
              rotate_left;·intro w';go_simp;with_reducible rfl
              rotate_left;·simp only [Act.put, L_,M_,N_, i64_w, i32_w];rfl
              refine pure_ (i := 13) (N := some 74) (v := ?_) (a' := ?_) #[T,T,T,T,T,T,T,T,T,T,T,T,T,T,F,F,F,F,F,F,F,F,F,F,F,F] rfl rfl (any_of HT_.out (by kernel_rfl)) (fun _ _ _ h => h) (Or.inl ⟨by rfl, ?_⟩) ?_ ?_
              rotate_left;·intro w';go_simp;with_reducible rfl
              rotate_left;·simp only [Act.put, L_,M_,N_, i64_w, i32_w];rfl
              refine pure_ (i := 14) (N := some 75) (v := ?_) (a' := ?_) #[T,T,T,T,T,T,T,T,T,T,T,T,T,T,T,F,F,F,F,F,F,F,F,F,F,F] rfl rfl (any_of HT_.out (by kernel_rfl)) (fun _ _ _ h => h) (Or.inl ⟨by rfl, ?_⟩) ?_ ?_
              rotate_left;·intro w';go_simp;with_reducible rfl
              rotate_left;·simp only [Act.put, L_,M_,N_, i64_w, i32_w];rfl
              refine pure_ (i := 15) (N := some 76) (v := ?_) (a' := ?_) #[T,T,T,T,T,T,T,T,T,T,T,T,T,T,T,T,F,F,F,F,F,F,F,F,F,F] rfl rfl (any_of HT_.out (by kernel_rfl)) (fun _ _ _ h => h) (Or.inl ⟨by rfl, ?_⟩) ?_ ?_
              rotate_left;·intro w';go_simp;with_reducible rfl
              rotate_left;·simp only [Act.put, L_,M_,N_, i64_w, i32_w];rfl
              refine pure_ (i := 16) (N := some 77) (v := ?_) (a' := ?_) #[T,T,T,T,T,T,T,T,T,T,T,T,T,T,T,T,T,F,F,F,F,F,F,F,F,F] rfl rfl (any_of HT_.out (by kernel_rfl)) (fun _ _ _ h => h) (Or.inl ⟨by rfl, ?_⟩) ?_ ?_
              rotate_left;·intro w';go_simp;with_reducible rfl
              rotate_left;·simp only [Act.put, L_,M_,N_, i64_w, i32_w];rfl
              refine pure_ (i := 17) (N := some 78) (v := undef) (a' := ?_) #[T,T,T,T,T,T,T,T,T,T,T,T,T,T,T,T,T,T,F,F,F,F,F,F,F,F] rfl rfl (any_of HT_.out (by kernel_rfl)) (fun _ _ _ h => h) (Or.inr ⟨by rfl, rfl⟩) ?_ ?_
              rotate_left;·simp only [Act.put, L_,M_,N_, i64_w, i32_w];rfl
              refine pure_ (i := 18) (N := some 79) (v := undef) (a' := ?_) #[T,T,T,T,T,T,T,T,T,T,T,T,T,T,T,T,T,T,T,F,F,F,F,F,F,F] rfl rfl (any_of HT_.out (by kernel_rfl)) (fun _ _ _ h => h) (Or.inr ⟨by rfl, rfl⟩) ?_ ?_
              rotate_left;·simp only [Act.put, L_,M_,N_, i64_w, i32_w];rfl
              refine pure_ (i := 19) (N := some 80) (v := undef) (a' := ?_) #[T,T,T,T,T,T,T,T,T,T,T,T,T,T,T,T,T,T,T,T,F,F,F,F,F,F] rfl rfl (any_of HT_.out (by kernel_rfl)) (fun _ _ _ h => h) (Or.inr ⟨by rfl, rfl⟩) ?_ ?_
              rotate_left;·simp only [Act.put, L_,M_,N_, i64_w, i32_w];rfl
              refine pure_ (i := 20) (N := some 81) (v := ?_) (a' := ?_) #[T,T,T,T,T,T,T,T,T,T,T,T,T,T,T,T,T,T,T,T,T,F,F,F,F,F] rfl rfl (any_of HT_.out (by kernel_rfl)) (fun _ _ _ h => h) (Or.inl ⟨by rfl, ?_⟩) ?_ ?_
              rotate_left;·intro w';go_simp;with_reducible rfl
              rotate_left;·simp only [Act.put, L_,M_,N_, i64_w, i32_w];rfl
              refine pure_ (i := 21) (N := some 82) (v := ?_) (a' := ?_) #[T,T,T,T,T,T,T,T,T,T,T,T,T,T,T,T,T,T,T,T,T,T,F,F,F,F] rfl rfl (any_of HT_.out (by kernel_rfl)) (fun _ _ _ h => h) (Or.inl ⟨by rfl, ?_⟩) ?_ ?_
              rotate_left;·intro w';go_simp;with_reducible rfl
              rotate_left;·simp only [Act.put, L_,M_,N_, i64_w, i32_w];rfl
              refine pure_ (i := 22) (N := some 83) (v := undef) (a' := ?_) #[T,T,T,T,T,T,T,T,T,T,T,T,T,T,T,T,T,T,T,T,T,T,T,F,F,F] rfl rfl (any_of HT_.out (by kernel_rfl)) (fun _ _ _ h => h) (Or.inr ⟨by rfl, rfl⟩) ?_ ?_
              rotate_left;·simp only [Act.put, L_,M_,N_, i64_w, i32_w];rfl
              refine pure_ (i := 23) (N := some 84) (v := undef) (a' := ?_) #[T,T,T,T,T,T,T,T,T,T,T,T,T,T,T,T,T,T,T,T,T,T,T,T,F,F] rfl rfl (any_of HT_.out (by kernel_rfl)) (fun _ _ _ h => h) (Or.inr ⟨by rfl, rfl⟩) ?_ ?_
              rotate_left;·simp only [Act.put, L_,M_,N_, i64_w, i32_w];rfl
              refine pure_ (i := 24) (N := some 85) (v := ?_) (a' := ?_) #[T,T,T,T,T,T,T,T,T,T,T,T,T,T,T,T,T,T,T,T,T,T,T,T,T,F] rfl rfl (any_of HT_.out (by kernel_rfl)) (fun _ _ _ h => h) (Or.inl ⟨by rfl, ?_⟩) ?_ ?_
              rotate_left;·intro w';go_simp;with_reducible rfl
              rotate_left;·simp only [Act.put, L_,M_,N_, i64_w, i32_w];rfl
              refine pure_ (i := 25) (N := some 86) (v := ?_) (a' := ?_) #[T,T,T,T,T,T,T,T,T,T,T,T,T,T,T,T,T,T,T,T,T,T,T,T,T,T] rfl rfl (any_of HT_.out (by kernel_rfl)) (fun _ _ _ h => h) (Or.inl ⟨by rfl, ?_⟩) ?_ ?_
              rotate_left;·intro w';go_simp;with_reducible rfl
              rotate_left;·simp only [Act.put, L_,M_,N_, i64_w, i32_w];rfl
              refine done_ (done_of HT_.out (by kernel_rfl)) ?_
              try go_wp2
              go_roundg k3
              case measure => have := HK1.out; have := HK2.out; have := HK3.out; omega
              case rel => exact ⟨(x8_3), (x9_3), (wrap64 (x13_3 + 1)), (x1001_3), (x1002_3), (x504001_3), (u504001), (by first | rfl | (simp; done) | (simp [*]; done)), H', ⟨by have := HK1.out; have := HK2.out; have := HK3.out; omega⟩, ⟨by (with_reducible repeat (first | apply Kd.R_alloc | apply Kd.R_drewN | apply Kd.R_drew)); exact HO_8.out⟩, ⟨by (with_reducible repeat (first | apply Kd.R_alloc | apply Kd.R_drewN | apply Kd.R_drew)); exact HO_9.out⟩, ⟨by (with_reducible repeat (first | apply Kd.R_alloc | apply Kd.R_drewN | apply Kd.R_drew)); exact HO_504001.out⟩, ⟨by (with_reducible repeat (first | refine blk_drewN ?_ _ | refine blk_drew ?_ | refine blk_alloc ?_ _)); exact BK496.out⟩, ⟨by (with_reducible repeat (first | refine blk_drewN ?_ _ | refine blk_drew ?_ | refine blk_alloc ?_ _)); exact BK503.out⟩, ⟨by repeat (first | (with_reducible first | exact HI0.out | apply IsS72.alloc | apply IsS72.drewN | apply IsS72.drew | apply IsS72.set_1 | apply IsS72.set_2 | refine IsS72.far ?_ NB0_496.out _ | refine IsS72.far ?_ NB0_503.out _) | exact HI0.out)⟩, ⟨by repeat (first | (with_reducible first | exact HK.out | apply KeepBut.set_ | apply keep_drewN | apply keep_drew | apply keep_alloc | refine keep_far ?_ GW496.out _ | refine keep_far ?_ GW503.out _) | exact HK.out)⟩, ⟨by repeat (first | (with_reducible first | exact HB.out | apply below_alloc | apply pw_below_drewN | apply below_drew1 | refine below_set ?_ (IsS72.ge HI0.out) | refine below_set ?_ GE496.out | refine below_set ?_ GE503.out) | exact HB.out)⟩⟩
           ·rw [if_neg c32] at H
            have c32b0 : decide (x13_3 < t497) = false := decide_eq_false c32
            clear c32
            have H' := Aside0.mk H
            clear H
            go_wp2
            go_roundg k3
            case measure => have := HK1.out; have := HK2.out; have := HK3.out; omega
            case rel => exact ⟨(x8_3), (x9_3), (wrap64 (x12_2 + 1)), (x1001_3), (x1002_3), (x504001_3), (u504001), (by first | rfl | (simp; done) | (simp [*]; done)), H', ⟨by have := HK1.out; have := HK2.out; have := HK3.out; omega⟩, ⟨by (with_reducible repeat (first | apply Kd.R_alloc | apply Kd.R_drewN | apply Kd.R_drew)); exact HO_8.out⟩, ⟨by (with_reducible repeat (first | apply Kd.R_alloc | apply Kd.R_drewN | apply Kd.R_drew)); exact HO_9.out⟩, ⟨by (with_reducible repeat (first | apply Kd.R_alloc | apply Kd.R_drewN | apply Kd.R_drew)); exact HO_504001.out⟩, ⟨by (with_reducible repeat (first | refine blk_drewN ?_ _ | refine blk_drew ?_ | refine blk_alloc ?_ _)); exact BK496.out⟩, ⟨by (with_reducible repeat (first | refine blk_drewN ?_ _ | refine blk_drew ?_ | refine blk_alloc ?_ _)); exact BK503.out⟩, ⟨by repeat (first | (with_reducible first | exact HI0.out | apply IsS72.alloc | apply IsS72.drewN | apply IsS72.drew | apply IsS72.set_1 | apply IsS72.set_2 | refine IsS72.far ?_ NB0_496.out _ | refine IsS72.far ?_ NB0_503.out _) | exact HI0.out)⟩, ⟨by repeat (first | (with_reducible first | exact HK.out | apply KeepBut.set_ | apply keep_drewN | apply keep_drew | apply keep_alloc | refine keep_far ?_ GW496.out _ | refine keep_far ?_ GW503.out _) | exact HK.out)⟩, ⟨by repeat (first | (with_reducible first | exact HB.out | apply below_alloc | apply pw_below_drewN | apply below_drew1 | refine below_set ?_ (IsS72.ge HI0.out) | refine below_set ?_ GE496.out | refine below_set ?_ GE503.out) | exact HB.out)⟩⟩
        ·rw [if_neg c31] at H
         have c31b0 : decide (x12_2 < t497) = false := decide_eq_false c31
         clear c31
         by_cases c92 : t504 > 0
         ·rw [if_pos c92] at H
          have c92b0 : decide (0 < t504) = true := decide_eq_true c92
          clear c92
          simp only [Option.some.injEq, Prod.mk.injEq] at H
          obtain ⟨rfl, rfl, rfl, rfl⟩ := H
          have hnb93 := NB503_496.out
          have hnc93 := NB496_503.out
          have hnb94 := NB503_0.out
          have hnc94 := NB0_503.out
          have hcz95_0 : wr.cell? ⟨gb503, 0, none⟩ = some (.int .i64 t497) := (blk_cell BK503.out 0).trans rfl
          have hcz95_1 : wr.cell? ⟨gb503, 1, none⟩ = some (u504001) := (blk_cell BK503.out 1).trans rfl
          have hfz95_0 := blk_frozen BK503.out 0
          have hfz95_1 := blk_frozen BK503.out 1
          have hnb96 := NB496_0.out
          have hnc96 := NB0_496.out
          have hcz97_0 : wr.cell? ⟨gb496, 0, none⟩ = some (.int .i64 0) := (blk_cell BK496.out 0).trans rfl
          have hcz97_1 : wr.cell? ⟨gb496, 1, none⟩ = some (.slice none 0 0) := (blk_cell BK496.out 1).trans rfl
          have hfz97_0 := blk_frozen BK496.out 0
          have hfz97_1 := blk_frozen BK496.out 1
          obtain ⟨Ao98, co98, eo98⟩ := Kd.R_slice HO_504001.out
          subst eo98
          go_wp2
          refine bodyPost_ret (results_cell_row rfl _ _ gb496 26 #[.int .i64 t497, .slice Ao98 x504001_2.length co98] (0, 0) _ rfl (by (with_reducible repeat (first | refine blk_drewN ?_ _ | refine blk_drew ?_ | refine blk_alloc ?_ _)); refine blk_put (cs := #[.int .i64 t497, .slice none 0 0]) ?_ 1 _ rfl; (with_reducible repeat (first | refine blk_drewN ?_ _ | refine blk_drew ?_ | refine blk_alloc ?_ _)); refine blk_put (cs := #[.int .i64 0, .slice none 0 0]) ?_ 0 _ rfl; (with_reducible repeat (first | refine blk_drewN ?_ _ | refine blk_drew ?_ | refine blk_alloc ?_ _)); exact BK496.out) Tryd.underlying26 rfl (by kernel_rfl)) rfl ?_
          exact ⟨_, by first | rfl | (simp [errW_none, errW_some] <;> rfl) | (simp [*, errW_none, errW_some] <;> rfl), by (with_reducible repeat (first | apply Kd.R_alloc | apply Kd.R_drewN | apply Kd.R_drew)); exact Kd.R_mono (Kd.R_far (p := ⟨gb496, 1, none⟩) (Kd.R_far (p := ⟨gb496, 0, none⟩) (Kd.R_types HO_504001.out BK496.out (by decide)) (fun _ hk => hk.2) (.int .i64 t497)) (fun _ hk => hk.2) (.slice Ao98 x504001_2.length co98)) (fun _ hk => trivial), by repeat (first | (with_reducible first | exact HI0.out | apply IsS72.alloc | apply IsS72.drewN | apply IsS72.drew | apply IsS72.set_1 | apply IsS72.set_2 | refine IsS72.far ?_ NB0_496.out _ | refine IsS72.far ?_ NB0_503.out _) | exact HI0.out), by repeat (first | (with_reducible first | exact HB.out | apply below_alloc | apply pw_below_drewN | apply below_drew1 | refine below_set ?_ (IsS72.ge HI0.out) | refine below_set ?_ GE496.out | refine below_set ?_ GE503.out) | exact HB.out), by repeat (first | (with_reducible first | exact HK.out | apply KeepBut.set_ | apply keep_drewN | apply keep_drew | apply keep_alloc | refine keep_far ?_ GW496.out _ | refine keep_far ?_ GW503.out _) | exact HK.out)⟩
         ·rw [if_neg c92] at H
          have c92b0 : decide (0 < t504) = false := decide_eq_false c92
          clear c92
          replace H := Option.bind_eq_some_iff.mp H
          obtain ⟨⟨t522, t523, t526⟩, A990, H⟩ := H
          replace H : (some (t522, t523, x1001_2, x1002_2)) = some (r1, r2, r3, r4) := H
          have A99 := Aside0.mk A990
          clear A990
          simp only [Option.some.injEq, Prod.mk.injEq] at H
          obtain ⟨rfl, rfl, rfl, rfl⟩ := H
          have hnb100 := NB503_496.out
          have hnc100 := NB496_503.out
          have hnb101 := NB503_0.out
          have hnc101 := NB0_503.out
          have hcz102_0 : wr.cell? ⟨gb503, 0, none⟩ = some (.int .i64 t497) := (blk_cell BK503.out 0).trans rfl
          have hcz102_1 : wr.cell? ⟨gb503, 1, none⟩ = some (u504001) := (blk_cell BK503.out 1).trans rfl
          have hfz102_0 := blk_frozen BK503.out 0
          have hfz102_1 := blk_frozen BK503.out 1
          obtain ⟨Ao103, co103, eo103⟩ := Kd.R_slice HO_504001.out
          subst eo103
          go_wp2_with (first | ((with_reducible refine gate_callee (f := 39) rfl ?_); refine goesL_ (some 101) rfl rfl Tryd.func39 (by kernel_rfl) rfl #[.agg #[.int .i64 t497, .slice Ao103 x504001_2.length co103]] rfl (by (try simp only [List.map_toArray, List.map_cons, List.map_nil]); first | done | rfl | (simp only [List.length_drop, List.length_take]; rfl)) ?_; (with_reducible refine (spec_CloseRelation.calls k2 t497 _ _ x504001_2 t522 t523 t526 _ ?side1 ?side2 A99.out).mono ?_); (case side1 => repeat (first | exact (Kd.R_reads' HO_504001.out).2.2 | (with_reducible refine Kd.C_alloc ?_ _) | (with_reducible refine Kd.C_drewN ?_ _) | (with_reducible refine Kd.C_drew ?_))); (case side2 => exact (Kd.R_reads' HO_504001.out).2.1); rintro e w104 ⟨v524, rfl, ho0, hb⟩; refine ⟨_, rfl, ?_⟩; have n0_ := Aside0.mk (Kd.R_elder' (by (with_reducible repeat (first | apply Kd.R_alloc | apply Kd.R_drewN | apply Kd.R_drew)); exact HO_8.out) (Kd.R_base ho0) hb); have n1_ := Aside0.mk (Kd.R_elder' (by (with_reducible repeat (first | apply Kd.R_alloc | apply Kd.R_drewN | apply Kd.R_drew)); exact HO_9.out) (Kd.R_base ho0) hb); have n2_ := Aside0.mk (Kd.R_elder' (by (with_reducible repeat (first | apply Kd.R_alloc | apply Kd.R_drewN | apply Kd.R_drew)); exact HO_504001.out) (Kd.R_base ho0) hb); have n3_ := Aside0.mk (Kd.R_lower (Kd.R_new' (Kd.R_new' (Kd.R_new' ho0 (Kd.R_lt (by (with_reducible repeat (first | apply Kd.R_alloc | apply Kd.R_drewN | apply Kd.R_drew)); exact HO_8.out))) (Kd.R_lt (by (with_reducible repeat (first | apply Kd.R_alloc | apply Kd.R_drewN | apply Kd.R_drew)); exact HO_9.out))) (Kd.R_lt (by (with_reducible repeat (first | apply Kd.R_alloc | apply Kd.R_drewN | apply Kd.R_drew)); exact HO_504001.out))) (keep_size (w := w) (g := g) (row := none) (by repeat (first | (with_reducible first | exact HK.out | apply KeepBut.set_ | apply keep_drewN | apply keep_drew | apply keep_alloc | refine keep_far ?_ GW496.out _ | refine keep_far ?_ GW503.out _) | exact HK.out)))); have n4_ := Aside0.mk (blk_below (g := gb496) (o := .cells #[.int .i64 0, .slice none 0 0] 26 (0, 0)) (by (with_reducible repeat (first | refine blk_drewN ?_ _ | refine blk_drew ?_ | refine blk_alloc ?_ _)); exact BK496.out) hb); have n5_ := Aside0.mk (blk_below (g := gb503) (o := .cells #[.int .i64 t497, .slice Ao103 x504001_2.length co103] 26 (0, 0)) (by (with_reducible repeat (first | refine blk_drewN ?_ _ | refine blk_drew ?_ | refine blk_alloc ?_ _)); exact BK503.out) hb); have n6_ := Aside0.mk (IsS72.below (by repeat (first | (with_reducible first | exact HI0.out | apply IsS72.alloc | apply IsS72.drewN | apply IsS72.drew | apply IsS72.set_1 | apply IsS72.set_2 | refine IsS72.far ?_ NB0_496.out _ | refine IsS72.far ?_ NB0_503.out _) | exact HI0.out)) hb); have n7_ := Aside0.mk (KeepBut.trans (by repeat (first | (with_reducible first | exact HK.out | apply KeepBut.set_ | apply keep_drewN | apply keep_drew | apply keep_alloc | refine keep_far ?_ GW496.out _ | refine keep_far ?_ GW503.out _) | exact HK.out)) (KeepBut.of_below hb g none) (.inl rfl)); have n8_ := Aside0.mk (below_step (by repeat (first | (with_reducible first | exact HB.out | apply below_alloc | apply pw_below_drewN | apply below_drew1 | refine below_set ?_ (IsS72.ge HI0.out) | refine below_set ?_ GE496.out | refine below_set ?_ GE503.out) | exact HB.out)) hb); clear HO_8; clear HO_9; clear HO_504001; clear BK496; clear BK503; clear HI0; clear HK; clear HB; have HO_8 := n0_; have HO_9 := n1_; have HO_504001 := n2_; have HO525 := n3_; have BK496 := n4_; have BK503 := n5_; have HI0 := n6_; have HK := n7_; have HB := n8_; clear n0_ n1_ n2_ n3_ n4_ n5_ n6_ n7_ n8_; (try clear hb); (try clear hb2); (try clear hk); (try clear hi); (try clear ho0)) | ((with_reducible refine gate_dst (N := 14) rfl ?_); refine box_event ?hg (N := 14) ?hd (cs := #[.int .i64 0, .slice none 0 0]) (t := 26) ?hr ?_; (case hd => rfl); (case hg => rfl); (case hr => first | (go_simp; done) | (go_simp; rfl)); intro gb527 hg w105 hbox hb; have n0_ := Aside0.mk (Kd.R_below (by (with_reducible repeat (first | apply Kd.R_alloc | apply Kd.R_drewN | apply Kd.R_drew)); exact HO_8.out) hb); have n1_ := Aside0.mk (Kd.R_below (by (with_reducible repeat (first | apply Kd.R_alloc | apply Kd.R_drewN | apply Kd.R_drew)); exact HO_9.out) hb); have n2_ := Aside0.mk (Kd.R_below (by (with_reducible repeat (first | apply Kd.R_alloc | apply Kd.R_drewN | apply Kd.R_drew)); exact HO_504001.out) hb); have n3_ := Aside0.mk (Kd.R_below (by (with_reducible repeat (first | apply Kd.R_alloc | apply Kd.R_drewN | apply Kd.R_drew)); exact HO525.out) hb); have n4_ := Aside0.mk (blk_below (g := gb496) (o := .cells #[.int .i64 0, .slice none 0 0] 26 (0, 0)) (by (with_reducible repeat (first | refine blk_drewN ?_ _ | refine blk_drew ?_ | refine blk_alloc ?_ _)); exact BK496.out) hb); have n5_ := Aside0.mk (blk_below (g := gb503) (o := .cells #[.int .i64 t497, .slice Ao103 x504001_2.length co103] 26 (0, 0)) (by (with_reducible repeat (first | refine blk_drewN ?_ _ | refine blk_drew ?_ | refine blk_alloc ?_ _)); exact BK503.out) hb); have n6_ := Aside0.mk (IsS72.below (by repeat (first | (with_reducible first | exact HI0.out | apply IsS72.alloc | apply IsS72.drewN | apply IsS72.drew | apply IsS72.set_1 | apply IsS72.set_2 | refine IsS72.far ?_ NB0_496.out _ | refine IsS72.far ?_ NB0_503.out _) | exact HI0.out)) hb); have n7_ := Aside0.mk (KeepBut.trans (by repeat (first | (with_reducible first | exact HK.out | apply KeepBut.set_ | apply keep_drewN | apply keep_drew | apply keep_alloc | refine keep_far ?_ GW496.out _ | refine keep_far ?_ GW503.out _) | exact HK.out)) (KeepBut.of_below hb g none) (.inl rfl)); have n8_ := Aside0.mk (below_step (by repeat (first | (with_reducible first | exact HB.out | apply below_alloc | apply pw_below_drewN | apply below_drew1 | refine below_set ?_ (IsS72.ge HI0.out) | refine below_set ?_ GE496.out | refine below_set ?_ GE503.out) | exact HB.out)) hb); have n9_ := Aside0.mk (hbox); have n10_ := Aside0.mk ((by rw [hg]; exact (keep_size (w := w) (g := g) (row := none) (by repeat (first | (with_reducible first | exact HK.out | apply KeepBut.set_ | apply keep_drewN | apply keep_drew | apply keep_alloc | refine keep_far ?_ GW496.out _ | refine keep_far ?_ GW503.out _) | exact HK.out))) : w.heap.size ≤ gb527)); have n11_ := Aside0.mk ((Nat.le_trans HW0.out (by rw [hg]; exact (keep_size (w := w) (g := g) (row := none) (by repeat (first | (with_reducible first | exact HK.out | apply KeepBut.set_ | apply keep_drewN | apply keep_drew | apply keep_alloc | refine keep_far ?_ GW496.out _ | refine keep_far ?_ GW503.out _) | exact HK.out))) : w.heap.size ≤ gb527) : w0.heap.size ≤ gb527)); have n12_ := Aside0.mk ((by rw [hg]; exact Nat.ne_of_lt (blk_lt (g := gb496) (o := .cells #[.int .i64 0, .slice none 0 0] 26 (0, 0)) (by (with_reducible repeat (first | refine blk_drewN ?_ _ | refine blk_drew ?_ | refine blk_alloc ?_ _)); exact BK496.out)) : gb496 ≠ gb527)); have n13_ := Aside0.mk ((by rw [hg]; exact Nat.ne_of_gt (blk_lt (g := gb496) (o := .cells #[.int .i64 0, .slice none 0 0] 26 (0, 0)) (by (with_reducible repeat (first | refine blk_drewN ?_ _ | refine blk_drew ?_ | refine blk_alloc ?_ _)); exact BK496.out)) : gb527 ≠ gb496)); have n14_ := Aside0.mk ((by rw [hg]; exact Nat.ne_of_lt (blk_lt (g := gb503) (o := .cells #[.int .i64 t497, .slice Ao103 x504001_2.length co103] 26 (0, 0)) (by (with_reducible repeat (first | refine blk_drewN ?_ _ | refine blk_drew ?_ | refine blk_alloc ?_ _)); exact BK503.out)) : gb503 ≠ gb527)); have n15_ := Aside0.mk ((by rw [hg]; exact Nat.ne_of_gt (blk_lt (g := gb503) (o := .cells #[.int .i64 t497, .slice Ao103 x504001_2.length co103] 26 (0, 0)) (by (with_reducible repeat (first | refine blk_drewN ?_ _ | refine blk_drew ?_ | refine blk_alloc ?_ _)); exact BK503.out)) : gb527 ≠ gb503)); have n16_ := Aside0.mk ((by rw [hg]; exact Nat.ne_of_lt (IsS72.lt (show IsS72 w0 _ g s0_0 x1001_2 x1002_2 from by repeat (first | (with_reducible first | exact HI0.out | apply IsS72.alloc | apply IsS72.drewN | apply IsS72.drew | apply IsS72.set_1 | apply IsS72.set_2 | refine IsS72.far ?_ NB0_496.out _ | refine IsS72.far ?_ NB0_503.out _) | exact HI0.out))) : g ≠ gb527)); have n17_ := Aside0.mk ((by rw [hg]; exact Nat.ne_of_gt (IsS72.lt (show IsS72 w0 _ g s0_0 x1001_2 x1002_2 from by repeat (first | (with_reducible first | exact HI0.out | apply IsS72.alloc | apply IsS72.drewN | apply IsS72.drew | apply IsS72.set_1 | apply IsS72.set_2 | refine IsS72.far ?_ NB0_496.out _ | refine IsS72.far ?_ NB0_503.out _) | exact HI0.out))) : gb527 ≠ g)); clear HO_8; clear HO_9; clear HO_504001; clear HO525; clear BK496; clear BK503; clear HI0; clear HK; clear HB; have HO_8 := n0_; have HO_9 := n1_; have HO_504001 := n2_; have HO525 := n3_; have BK496 := n4_; have BK503 := n5_; have HI0 := n6_; have HK := n7_; have HB := n8_; have BK527 := n9_; have GW527 := n10_; have GE527 := n11_; have NB496_527 := n12_; have NB527_496 := n13_; have NB503_527 := n14_; have NB527_503 := n15_; have NB0_527 := n16_; have NB527_0 := n17_; clear n0_ n1_ n2_ n3_ n4_ n5_ n6_ n7_ n8_ n9_ n10_ n11_ n12_ n13_ n14_ n15_ n16_ n17_; clear hb hbox hg; have hnb106 := NB527_496.out; have hnc106 := NB496_527.out; have hnb107 := NB527_503.out; have hnc107 := NB503_527.out; have hnb108 := NB527_0.out; have hnc108 := NB0_527.out; have hcz109_0 : w105.cell? ⟨gb527, 0, none⟩ = some (.int .i64 0) := (blk_cell BK527.out 0).trans rfl; have hcz109_1 : w105.cell? ⟨gb527, 1, none⟩ = some (.slice none 0 0) := (blk_cell BK527.out 1).trans rfl; have hfz109_0 := blk_frozen BK527.out 0; have hfz109_1 := blk_frozen BK527.out 1; obtain ⟨Ao110, co110, eo110⟩ := Kd.R_slice HO525.out; subst eo110; have hnb111 := NB496_0.out; have hnc111 := NB0_496.out; have hcz112_0 : w105.cell? ⟨gb496, 0, none⟩ = some (.int .i64 0) := (blk_cell BK496.out 0).trans rfl; have hcz112_1 : w105.cell? ⟨gb496, 1, none⟩ = some (.slice none 0 0) := (blk_cell BK496.out 1).trans rfl; have hfz112_0 := blk_frozen BK496.out 0; have hfz112_1 := blk_frozen BK496.out 1))
          refine bodyPost_ret (results_cell_row rfl _ _ gb496 26 #[.int .i64 t522, .slice Ao110 t523.length co110] (0, 0) _ rfl (by (with_reducible repeat (first | refine blk_drewN ?_ _ | refine blk_drew ?_ | refine blk_alloc ?_ _)); refine blk_put (cs := #[.int .i64 t522, .slice none 0 0]) ?_ 1 _ rfl; (with_reducible repeat (first | refine blk_drewN ?_ _ | refine blk_drew ?_ | refine blk_alloc ?_ _)); refine blk_put (cs := #[.int .i64 0, .slice none 0 0]) ?_ 0 _ rfl; (with_reducible repeat (first | refine blk_drewN ?_ _ | refine blk_drew ?_ | refine blk_alloc ?_ _)); refine blk_far ?_ NB496_527.out _; (with_reducible repeat (first | refine blk_drewN ?_ _ | refine blk_drew ?_ | refine blk_alloc ?_ _)); refine blk_far ?_ NB496_527.out _; (with_reducible repeat (first | refine blk_drewN ?_ _ | refine blk_drew ?_ | refine blk_alloc ?_ _)); exact BK496.out) Tryd.underlying26 rfl (by kernel_rfl)) rfl ?_
          exact ⟨_, by first | rfl | (simp [errW_none, errW_some] <;> rfl) | (simp [*, errW_none, errW_some] <;> rfl), by (with_reducible repeat (first | apply Kd.R_alloc | apply Kd.R_drewN | apply Kd.R_drew)); exact Kd.R_mono (Kd.R_far (p := ⟨gb496, 1, none⟩) (Kd.R_far (p := ⟨gb496, 0, none⟩) (Kd.R_far (p := ⟨gb527, 1, none⟩) (Kd.R_far (p := ⟨gb527, 0, none⟩) (Kd.R_types (Kd.R_types HO525.out BK527.out (by decide)) BK496.out (by decide)) (fun _ hk => hk.1.2) (.int .i64 t522)) (fun _ hk => hk.1.2) (.slice Ao110 t523.length co110)) (fun _ hk => hk.2) (.int .i64 t522)) (fun _ hk => hk.2) (.slice Ao110 t523.length co110)) (fun _ hk => trivial), by repeat (first | (with_reducible first | exact HI0.out | apply IsS72.alloc | apply IsS72.drewN | apply IsS72.drew | apply IsS72.set_1 | apply IsS72.set_2 | refine IsS72.far ?_ NB0_496.out _ | refine IsS72.far ?_ NB0_503.out _ | refine IsS72.far ?_ NB0_527.out _) | exact HI0.out), by repeat (first | (with_reducible first | exact HB.out | apply below_alloc | apply pw_below_drewN | apply below_drew1 | refine below_set ?_ (IsS72.ge HI0.out) | refine below_set ?_ GE496.out | refine below_set ?_ GE503.out | refine below_set ?_ GE527.out) | exact HB.out), by repeat (first | (with_reducible first | exact HK.out | apply KeepBut.set_ | apply keep_drewN | apply keep_drew | apply keep_alloc | refine keep_far ?_ GW496.out _ | refine keep_far ?_ GW503.out _ | refine keep_far ?_ GW527.out _) | exact HK.out)⟩
  ·rw [if_neg c5] at H
   exact absurd H (by simp)
 ·rw [if_neg c4] at H
  exact absurd H (by simp)
end Go.Proofs.YtjdkcafpgebjfaaDoor.P
