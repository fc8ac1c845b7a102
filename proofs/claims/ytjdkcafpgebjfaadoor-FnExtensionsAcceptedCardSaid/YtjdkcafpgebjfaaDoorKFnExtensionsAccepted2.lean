/- A part of the proof that the law FnExtensionsAccepted holds at every input. Written by wip/pack.py: the kit's printed words that are used, the functions' walks as wip/gen.py prints them, and hand proofs. -/
import Derived.Test.YtjdkcafpgebjfaaDoorKFnExtensionsAccepted1
namespace Go.Proofs.YtjdkcafpgebjfaaDoor.P
open Bool renaming true → T, false → F
open List renaming setIfInBounds_toArray → L_, set_cons_zero → M_, set_cons_succ → N_
open Go.RowKit Go.Proofs.YtjdkcafpgebjfaaDoorW.PrintWords Go.Proofs.YtjdkcafpgebjfaaDoorW.PrintLast Go.Proofs.YtjdkcafpgebjfaaDoorW.PrintMore
attribute [local go_sem] max2_int min2_int max_two min_two max_three min_three max_four min_four
set_option linter.unusedVariables false
set_option linter.unusedSimpArgs false
attribute [local go_sem] fldOrder_0 fldOrder_1
mutual
def spec_CloseRelation.l0 : Nat → Int → Int → Int → List Int → Option (Int × List Int × Bool)
 | 0, _, _, _, _ => none
 | k + 1, x19, x20, x491000, x491001 => if x20 < x19 then (spec_CloseRelation.l1 k x20 x19 x20 (x491001.length : Int) 0 x491000 x491001) else (some (x491000, x491001, true))
def spec_CloseRelation.l1 : Nat → Int → Int → Int → Int → Int → Int → List Int → Option (Int × List Int × Bool)
 | 0, _, _, _, _, _, _, _ => none
 | k + 1, x5, x19, x20, x25, x26, x491000, x491001 => if x26 < x25 then (if 0 ≤ x26 then (if x26 < (x491001.length : Int) then ((spec_orHas.f (rd x491001 x26) x5).bind fun t492 => (if t492 = true then (if 0 ≤ x5 then (if x5 < (x491001.length : Int) then (spec_CloseRelation.l1 k x5 x19 x20 x25 (wrap64 (x26 + 1)) x491000 (x491001.set (x26 : Int).toNat (Go.bits .or .i64 (rd x491001 x26) (rd x491001 x5)))) else (none)) else (none)) else (spec_CloseRelation.l1 k x5 x19 x20 x25 (wrap64 (x26 + 1)) x491000 x491001))) else (none)) else (none)) else (spec_CloseRelation.l0 k x19 (wrap64 (x20 + 1)) x491000 x491001)
end
def spec_CloseRelation.f (k : Nat) (a0_0 : Int) (l0_1 : List Int) : Option (Int × List Int × Bool) := (spec_orRelation.f k a0_0 l0_1).bind fun t486 => (if t486 = true then ((spec_l1Own.f l0_1).bind fun t487 => (spec_CloseRelation.l0 k (t487.length : Int) 0 a0_0 t487)) else (some (0, ([] : List Int), false)))
def spec_CloseRelation.T3 : Bool × List (List Nat × List Nat) := (true, [([], []), ([0], [0]), ([], []), ([2], [2]), ([3], [3]), ([1, 4], [1, 4]), ([], []), ([6, 5, 4, 0, 1, 2, 3, 4, 5, 6], [5, 6])])
def spec_CloseRelation.B3 : List Nat := [0, 1, 0, 4, 12, 31, 0, 127]
theorem spec_CloseRelation.tab3 : rtab .any (opsOf Tryd.f39 3) = spec_CloseRelation.T3 := by kernel_rfl
theorem spec_CloseRelation.bits3 : waitsOk spec_CloseRelation.T3.2 spec_CloseRelation.B3 = true := by kernel_rfl
def spec_CloseRelation.T11 : Bool × List (List Nat × List Nat) := (true, [([], []), ([0], [0]), ([], []), ([1, 2], [1, 2]), ([3], [3]), ([], []), ([5], [5]), ([], []), ([6, 7], [6, 7]), ([8], [8]), ([4, 9], [4, 9]), ([1, 2, 0, 1, 2, 3, 4, 5, 6, 7, 8, 9, 10], [1, 2]), ([11, 10, 0, 1, 2, 3, 4, 5, 6, 7, 8, 9, 10], [10, 11])])
def spec_CloseRelation.B11 : List Nat := [0, 1, 0, 7, 15, 0, 32, 0, 224, 480, 1023, 2047, 4095]
theorem spec_CloseRelation.tab11 : rtab .any (opsOf Tryd.f39 11) = spec_CloseRelation.T11 := by kernel_rfl
theorem spec_CloseRelation.bits11 : waitsOk spec_CloseRelation.T11.2 spec_CloseRelation.B11 = true := by kernel_rfl
set_option maxHeartbeats 8000000 in
set_option maxRecDepth 100000 in
theorem spec_CloseRelation.calls (k : Nat) (a0_0 : Int) (A0_1 : Option Addr) (c0_1 : Nat) (l0_1 : List Int) (r1 : Int) (r2 : List Int) (r3 : Bool) (w : World) (hr0_1 : Kd.C (Kd.int .i64) w A0_1 l0_1.length l0_1) (hc0_1 : l0_1.length ≤ c0_1) (h : spec_CloseRelation.f k a0_0 l0_1 = some (r1, r2, r3)) :
 Calls Tryd.prog 39 #[.agg #[.int .i64 a0_0, .slice A0_1 l0_1.length c0_1]] w fun e w' => ∃ v1_ : Value, e = .returned (.tuple #[.agg #[.int .i64 r1, v1_], .bool r3]) ∧ Kd.R (Kd.int .i64) 3 w' w.heap.size (fun _ => True) v1_ r2 ∧ Below w.heap.size w w' := by
 have hu26 := Tryd.underlying26
 have HR0_1 := Aside0.mk hr0_1
 have HC0_1 := Aside0.mk hc0_1
 clear hr0_1 hc0_1
 have HB := Aside0.mk (Below.refl w.heap.size w)
 have H : ((spec_orRelation.f k a0_0 l0_1).bind fun t486 => (if t486 = true then ((spec_l1Own.f l0_1).bind fun t487 => (spec_CloseRelation.l0 k (t487.length : Int) 0 a0_0 t487)) else (some (0, ([] : List Int), false)))) = some (r1, r2, r3) := h
 clear h
 replace H := Option.bind_eq_some_iff.mp H
 obtain ⟨t486, A20, H⟩ := H
 replace H : (if t486 = true then ((spec_l1Own.f l0_1).bind fun t487 => (spec_CloseRelation.l0 k (t487.length : Int) 0 a0_0 t487)) else (some (0, ([] : List Int), false))) = some (r1, r2, r3) := H
 have A2 := Aside0.mk A20
 clear A20
 by_cases c3 : t486 = true
 ·subst c3
  have H1 : ((spec_l1Own.f l0_1).bind fun t487 => (spec_CloseRelation.l0 k (t487.length : Int) 0 a0_0 t487)) = some (r1, r2, r3) := by rw [if_pos rfl] at H; exact H
  clear H
  have H := H1
  clear H1
  replace H := Option.bind_eq_some_iff.mp H
  obtain ⟨t487, A40, H⟩ := H
  replace H : (spec_CloseRelation.l0 k (t487.length : Int) 0 a0_0 t487) = some (r1, r2, r3) := H
  have A4 := Aside0.mk A40
  clear A40
  have H' := Aside0.mk H
  clear H
  go_enter Tryd.func39, Tryd.ntmps39
  try go_wp2_with (first | ((with_reducible refine gate_dst (N := 1) rfl ?_); refine box_event ?hg (N := 1) ?hd (cs := #[.int .i64 a0_0, .slice A0_1 l0_1.length c0_1]) (t := 26) ?hr ?_; (case hd => rfl); (case hg => rfl); (case hr => first | (go_simp; done) | (go_simp; rfl)); intro gb484 hg w5 hbox hb; have n0_ := Aside0.mk (below_step (by repeat (first | (with_reducible first | exact HB.out | apply below_alloc | apply pw_below_drewN | apply below_drew1) | exact HB.out)) hb); have n1_ := Aside0.mk (hbox); have n2_ := Aside0.mk ((by rw [hg]; exact (below_size (by repeat (first | (with_reducible first | exact HB.out | apply below_alloc | apply pw_below_drewN | apply below_drew1) | exact HB.out))) : w.heap.size ≤ gb484)); have n3_ := Aside0.mk ((by rw [hg]; exact (below_size (by repeat (first | (with_reducible first | exact HB.out | apply below_alloc | apply pw_below_drewN | apply below_drew1) | exact HB.out))) : w.heap.size ≤ gb484)); clear HB; have HB := n0_; have BK484 := n1_; have GW484 := n2_; have GE484 := n3_; clear n0_ n1_ n2_ n3_; clear hb hbox hg) | ((with_reducible refine gate_dst (N := 2) rfl ?_); refine box_event ?hg (N := 2) ?hd (cs := #[.int .i64 0, .slice none 0 0]) (t := 26) ?hr ?_; (case hd => rfl); (case hg => rfl); (case hr => first | (go_simp; done) | (go_simp; rfl)); intro gb485 hg w6 hbox hb; have n0_ := Aside0.mk (blk_below (g := gb484) (o := .cells #[.int .i64 a0_0, .slice A0_1 l0_1.length c0_1] 26 (0, 0)) (by (with_reducible repeat (first | refine blk_drewN ?_ _ | refine blk_drew ?_ | refine blk_alloc ?_ _)); exact BK484.out) hb); have n1_ := Aside0.mk (below_step (by repeat (first | (with_reducible first | exact HB.out | apply below_alloc | apply pw_below_drewN | apply below_drew1 | refine below_set ?_ GE484.out) | exact HB.out)) hb); have n2_ := Aside0.mk (hbox); have n3_ := Aside0.mk ((by rw [hg]; exact (below_size (by repeat (first | (with_reducible first | exact HB.out | apply below_alloc | apply pw_below_drewN | apply below_drew1 | refine below_set ?_ GE484.out) | exact HB.out))) : w.heap.size ≤ gb485)); have n4_ := Aside0.mk ((by rw [hg]; exact (below_size (by repeat (first | (with_reducible first | exact HB.out | apply below_alloc | apply pw_below_drewN | apply below_drew1 | refine below_set ?_ GE484.out) | exact HB.out))) : w.heap.size ≤ gb485)); have n5_ := Aside0.mk ((by rw [hg]; exact Nat.ne_of_lt (blk_lt (g := gb484) (o := .cells #[.int .i64 a0_0, .slice A0_1 l0_1.length c0_1] 26 (0, 0)) (by (with_reducible repeat (first | refine blk_drewN ?_ _ | refine blk_drew ?_ | refine blk_alloc ?_ _)); exact BK484.out)) : gb484 ≠ gb485)); have n6_ := Aside0.mk ((by rw [hg]; exact Nat.ne_of_gt (blk_lt (g := gb484) (o := .cells #[.int .i64 a0_0, .slice A0_1 l0_1.length c0_1] 26 (0, 0)) (by (with_reducible repeat (first | refine blk_drewN ?_ _ | refine blk_drew ?_ | refine blk_alloc ?_ _)); exact BK484.out)) : gb485 ≠ gb484)); clear BK484; clear HB; have BK484 := n0_; have HB := n1_; have BK485 := n2_; have GW485 := n3_; have GE485 := n4_; have NB484_485 := n5_; have NB485_484 := n6_; clear n0_ n1_ n2_ n3_ n4_ n5_ n6_; clear hb hbox hg; have hnb7 := NB484_485.out; have hnc7 := NB485_484.out; have hcz8_0 : w6.cell? ⟨gb484, 0, none⟩ = some (.int .i64 a0_0) := (blk_cell BK484.out 0).trans rfl; have hcz8_1 : w6.cell? ⟨gb484, 1, none⟩ = some (.slice A0_1 l0_1.length c0_1) := (blk_cell BK484.out 1).trans rfl; have hfz8_0 := blk_frozen BK484.out 0; have hfz8_1 := blk_frozen BK484.out 1) | ((with_reducible refine gate_callee (f := 104) rfl ?_); refine goesL_ (some 8) rfl rfl Tryd.func104 (by kernel_rfl) rfl #[.agg #[.int .i64 a0_0, .slice A0_1 l0_1.length c0_1]] rfl (by (try simp only [List.map_toArray, List.map_cons, List.map_nil]); first | done | rfl | (simp only [List.length_drop, List.length_take]; rfl)) ?_; (with_reducible refine (spec_orRelation.calls k a0_0 _ _ l0_1 true _ ?side1 ?side2 A2.out).mono ?_); (case side1 => repeat (first | exact (Kd.C_below HR0_1.out HB.out) | (with_reducible refine Kd.C_alloc ?_ _) | (with_reducible refine Kd.C_drewN ?_ _) | (with_reducible refine Kd.C_drew ?_))); (case side2 => exact HC0_1.out); rintro e w9 ⟨rfl, hb⟩; refine ⟨_, rfl, ?_⟩; have n0_ := Aside0.mk (blk_below (g := gb484) (o := .cells #[.int .i64 a0_0, .slice A0_1 l0_1.length c0_1] 26 (0, 0)) (by (with_reducible repeat (first | refine blk_drewN ?_ _ | refine blk_drew ?_ | refine blk_alloc ?_ _)); exact BK484.out) hb); have n1_ := Aside0.mk (blk_below (g := gb485) (o := .cells #[.int .i64 0, .slice none 0 0] 26 (0, 0)) (by (with_reducible repeat (first | refine blk_drewN ?_ _ | refine blk_drew ?_ | refine blk_alloc ?_ _)); exact BK485.out) hb); have n2_ := Aside0.mk (below_step (by repeat (first | (with_reducible first | exact HB.out | apply below_alloc | apply pw_below_drewN | apply below_drew1 | refine below_set ?_ GE484.out | refine below_set ?_ GE485.out) | exact HB.out)) hb); clear BK484; clear BK485; clear HB; have BK484 := n0_; have BK485 := n1_; have HB := n2_; clear n0_ n1_ n2_; (try clear hb); (try clear hb2); (try clear hk); (try clear hi)))
  have n0_ := Aside0.mk (blk_drew BK484.out)
  have n1_ := Aside0.mk (blk_drew BK485.out)
  have n2_ := Aside0.mk (below_drew1 HB.out)
  clear BK484
  clear BK485
  clear HB
  have BK484 := n0_
  have BK485 := n1_
  have HB := n2_
  clear n0_ n1_ n2_
  refine start_ (n := 8) (S := fun w' => w'.cell? ⟨gb484, 0, none⟩ = some (.int .i64 a0_0) ∧ w'.cell? ⟨gb484, 1, none⟩ = some (.slice A0_1 l0_1.length c0_1)) (ds := []) #[F,F,F,F,F,F,F,F] (by kernel_rfl) rfl rfl ⟨(blk_cell BK484.out 0).trans rfl, (blk_cell BK484.out 1).trans rfl⟩ (fun hHeld => ?_); refine with_tabW spec_CloseRelation.tab3 spec_CloseRelation.bits3 (fun HT_ HW_ => ?_)
  generalize w9.drew = w10 at BK484 BK485 HB hHeld ⊢
  refine pure_ (i := 0) (N := some 11) (v := ?_) (a' := ?_) #[T,F,F,F,F,F,F,F] rfl rfl (any_of HT_.out (by kernel_rfl)) (fun _ _ _ h => h) (Or.inl ⟨by rfl, ?_⟩) ?_ ?_
  rotate_left;·intro w';go_simp;with_reducible rfl
  rotate_left;·simp only [Act.put, L_,M_,N_, i64_w, i32_w];rfl
  refine pure_ (i := 2) (N := some 13) (v := ?_) (a' := ?_) #[T,F,T,F,F,F,F,F] rfl rfl (any_of HT_.out (by kernel_rfl)) (fun _ _ _ h => h) (Or.inl ⟨by rfl, ?_⟩) ?_ ?_
  rotate_left;·intro w';go_simp;with_reducible rfl
  rotate_left;·simp only [Act.put, L_,M_,N_, i64_w, i32_w];rfl
  refine take_ (i := 1) (N := some 12) (v := ?_) (a' := ?_) #[T,T,T,F,F,F,F,F] rfl rfl (take_ofW HT_.out HW_.out (by kernel_rfl)) (fun _ _ _ h => h) (Or.inl ⟨by rfl, ?_⟩) hHeld ?_ ?_
  rotate_left
  ·rintro w' ⟨s0, s1⟩
   go_simp
   with_reducible rfl
  rotate_left;·simp only [Act.put, L_,M_,N_, i64_w, i32_w];rfl
  refine take_ (i := 3) (N := some 14) (v := ?_) (a' := ?_) #[T,T,T,T,F,F,F,F] rfl rfl (take_ofW HT_.out HW_.out (by kernel_rfl)) (fun _ _ _ h => h) (Or.inl ⟨by rfl, ?_⟩) hHeld ?_ ?_
  rotate_left
  ·rintro w' ⟨s0, s1⟩
   go_simp
   with_reducible rfl
  rotate_left;·simp only [Act.put, L_,M_,N_, i64_w, i32_w];rfl
  refine join_ (σ := Value × Nat) 1 #[T,T,T,T,T,T,T,F] (fun s_ => [(15, s_.1), (4, .pointer (some ⟨s_.2, 0, none⟩)), (16, .agg #[.int .i64 a0_0, s_.1])]) (fun s_ w' => (w'.cell? ⟨gb484, 0, none⟩ = some (.int .i64 a0_0) ∧ w'.cell? ⟨gb484, 1, none⟩ = some (.slice A0_1 l0_1.length c0_1)) ∧ (Kd.R (Kd.int .i64) 3 w' w.heap.size (fun _ => True) s_.1 t487) ∧ (w'.heap[gb484]? = some (.cells #[.int .i64 a0_0, .slice A0_1 l0_1.length c0_1] 26 (0, 0))) ∧ (w'.heap[gb485]? = some (.cells #[.int .i64 0, .slice none 0 0] 26 (0, 0))) ∧ (w'.heap[s_.2]? = some (.cells #[.int .i64 0, .slice none 0 0] 26 (0, 0))) ∧ (w.heap.size ≤ s_.2) ∧ (w.heap.size ≤ s_.2) ∧ (gb484 ≠ s_.2) ∧ (s_.2 ≠ gb484) ∧ (gb485 ≠ s_.2) ∧ (s_.2 ≠ gb485) ∧ (Below w.heap.size w w')) ?_ ?_
  rotate_left
  ·intro hCont
   refine two_ (i := 4) (j := 6) (Ni := some 15) (Nj := some 4) #[T,T,T,T,T,F,F,F] #[T,T,T,T,F,F,T,F] rfl rfl rfl rfl (two_of HT_.out (by kernel_rfl)) (by decide) (by decide) (fun K hK => ?_) (fun K hK => ?_)
   ·skip
    refine goes_ Tryd.func112 (by kernel_rfl) rfl #[.slice A0_1 l0_1.length c0_1] (by rfl) rfl rfl (by (try simp only [List.map_toArray, List.map_cons, List.map_nil]); first | done | rfl | (simp only [List.length_drop, List.length_take]; rfl)) ?_
    with_reducible refine (spec_l1Own.calls _ _ l0_1 t487 _ ?side1 ?side2 A4.out).mono ?_
    (case side1 => repeat (first | exact (Kd.C_below HR0_1.out HB.out) | (with_reducible refine Kd.C_alloc ?_ _) | (with_reducible refine Kd.C_drewN ?_ _) | (with_reducible refine Kd.C_drew ?_)))
    (case side2 => exact HC0_1.out)
    rintro e w11 ⟨v488, rfl, ho0, hb⟩
    refine ⟨_, rfl, ?_⟩
    have n0_ := Aside0.mk (Kd.R_lower ho0 (below_size (by repeat (first | (with_reducible first | exact HB.out | apply below_alloc | apply pw_below_drewN | apply below_drew1 | refine below_set ?_ GE484.out | refine below_set ?_ GE485.out) | exact HB.out))))
    have n1_ := Aside0.mk (blk_below (g := gb484) (o := .cells #[.int .i64 a0_0, .slice A0_1 l0_1.length c0_1] 26 (0, 0)) (by (with_reducible repeat (first | refine blk_drewN ?_ _ | refine blk_drew ?_ | refine blk_alloc ?_ _)); exact BK484.out) hb)
    have n2_ := Aside0.mk (blk_below (g := gb485) (o := .cells #[.int .i64 0, .slice none 0 0] 26 (0, 0)) (by (with_reducible repeat (first | refine blk_drewN ?_ _ | refine blk_drew ?_ | refine blk_alloc ?_ _)); exact BK485.out) hb)
    have n3_ := Aside0.mk (below_step (by repeat (first | (with_reducible first | exact HB.out | apply below_alloc | apply pw_below_drewN | apply below_drew1 | refine below_set ?_ GE484.out | refine below_set ?_ GE485.out) | exact HB.out)) hb)
    clear BK484
    clear BK485
    clear HB
    have HO489 := n0_
    have BK484 := n1_
    have BK485 := n2_
    have HB := n3_
    clear n0_ n1_ n2_ n3_
    (try clear hb)
    (try clear hb2)
    (try clear hk)
    (try clear hi)
    (try clear ho0)
    obtain ⟨Ao12, co12, eo12⟩ := Kd.R_slice HO489.out
    (first | subst eo12 | (injection eo12 with f1_ f2_ f3_; have f4_ := f1_.symm; have f5_ := f3_.symm; clear f1_ f2_ f3_; subst f4_; subst f5_))
    refine hK.out _ _ ⟨(blk_cell BK484.out 0).trans rfl, (blk_cell BK484.out 1).trans rfl⟩ (fun hHeld => ?_)
    clear hK K
    refine norm_ (a' := ?_) ?_ ?_
    rotate_left
    ·show Act.put _ (some 15) _ = _
     simp only [Act.put, L_,M_,N_, i64_w, i32_w]
     rfl
    refine pure_ (i := 5) (N := some 16) (v := ?_) (a' := ?_) #[T,T,T,T,T,T,F,F] rfl rfl (any_of HT_.out (by kernel_rfl)) (fun _ _ _ h => h) (Or.inl ⟨by rfl, ?_⟩) ?_ ?_
    rotate_left;·intro w';go_simp;with_reducible rfl
    rotate_left;·simp only [Act.put, L_,M_,N_, i64_w, i32_w];rfl
    refine one_ (i := 6) (N := some 4) #[T,T,T,T,T,T,T,F] rfl rfl (one_of HT_.out (by kernel_rfl)) (by decide) (fun K hK => ?_)
    refine box_step ?hg (N := 4) ?hd (cs := #[.int .i64 0, .slice none 0 0]) (t := 26) ?hr ?_; (case hd => rfl); (case hg => rfl); (case hr => first | (go_simp; done) | (go_simp; rfl))
    intro gb490 hg w13 hbox hb
    have n0_ := Aside0.mk (Kd.R_below (by (with_reducible repeat (first | apply Kd.R_alloc | apply Kd.R_drewN | apply Kd.R_drew)); exact HO489.out) hb)
    have n1_ := Aside0.mk (blk_below (g := gb484) (o := .cells #[.int .i64 a0_0, .slice A0_1 l0_1.length c0_1] 26 (0, 0)) (by (with_reducible repeat (first | refine blk_drewN ?_ _ | refine blk_drew ?_ | refine blk_alloc ?_ _)); exact BK484.out) hb)
    have n2_ := Aside0.mk (blk_below (g := gb485) (o := .cells #[.int .i64 0, .slice none 0 0] 26 (0, 0)) (by (with_reducible repeat (first | refine blk_drewN ?_ _ | refine blk_drew ?_ | refine blk_alloc ?_ _)); exact BK485.out) hb)
    have n3_ := Aside0.mk (below_step (by repeat (first | (with_reducible first | exact HB.out | apply below_alloc | apply pw_below_drewN | apply below_drew1 | refine below_set ?_ GE484.out | refine below_set ?_ GE485.out) | exact HB.out)) hb)
    have n4_ := Aside0.mk (hbox)
    have n5_ := Aside0.mk ((by rw [hg]; exact (below_size (by repeat (first | (with_reducible first | exact HB.out | apply below_alloc | apply pw_below_drewN | apply below_drew1 | refine below_set ?_ GE484.out | refine below_set ?_ GE485.out) | exact HB.out))) : w.heap.size ≤ gb490))
    have n6_ := Aside0.mk ((by rw [hg]; exact (below_size (by repeat (first | (with_reducible first | exact HB.out | apply below_alloc | apply pw_below_drewN | apply below_drew1 | refine below_set ?_ GE484.out | refine below_set ?_ GE485.out) | exact HB.out))) : w.heap.size ≤ gb490))
    have n7_ := Aside0.mk ((by rw [hg]; exact Nat.ne_of_lt (blk_lt (g := gb484) (o := .cells #[.int .i64 a0_0, .slice A0_1 l0_1.length c0_1] 26 (0, 0)) (by (with_reducible repeat (first | refine blk_drewN ?_ _ | refine blk_drew ?_ | refine blk_alloc ?_ _)); exact BK484.out)) : gb484 ≠ gb490))
    have n8_ := Aside0.mk ((by rw [hg]; exact Nat.ne_of_gt (blk_lt (g := gb484) (o := .cells #[.int .i64 a0_0, .slice A0_1 l0_1.length c0_1] 26 (0, 0)) (by (with_reducible repeat (first | refine blk_drewN ?_ _ | refine blk_drew ?_ | refine blk_alloc ?_ _)); exact BK484.out)) : gb490 ≠ gb484))
    have n9_ := Aside0.mk ((by rw [hg]; exact Nat.ne_of_lt (blk_lt (g := gb485) (o := .cells #[.int .i64 0, .slice none 0 0] 26 (0, 0)) (by (with_reducible repeat (first | refine blk_drewN ?_ _ | refine blk_drew ?_ | refine blk_alloc ?_ _)); exact BK485.out)) : gb485 ≠ gb490))
    have n10_ := Aside0.mk ((by rw [hg]; exact Nat.ne_of_gt (blk_lt (g := gb485) (o := .cells #[.int .i64 0, .slice none 0 0] 26 (0, 0)) (by (with_reducible repeat (first | refine blk_drewN ?_ _ | refine blk_drew ?_ | refine blk_alloc ?_ _)); exact BK485.out)) : gb490 ≠ gb485))
    clear HO489
    clear BK484
    clear BK485
    clear HB
    have HO489 := n0_
    have BK484 := n1_
    have BK485 := n2_
    have HB := n3_
    have BK490 := n4_
    have GW490 := n5_
    have GE490 := n6_
    have NB484_490 := n7_
    have NB490_484 := n8_
    have NB485_490 := n9_
    have NB490_485 := n10_
    clear n0_ n1_ n2_ n3_ n4_ n5_ n6_ n7_ n8_ n9_ n10_
    clear hb hbox hg
    refine hK.out _ _ ⟨(blk_cell BK484.out 0).trans rfl, (blk_cell BK484.out 1).trans rfl⟩ (fun hHeld => ?_)
    clear hK K
    refine norm_ (a' := ?_) ?_ ?_
    rotate_left
    ·show Act.put _ (some 4) _ = _
     simp only [Act.put, L_,M_,N_, i64_w, i32_w]
     rfl
    exact norm_ (by simp only [putAll, Act.put, L_,M_,N_]) (hCont (.slice Ao12 t487.length co12, gb490) _ ⟨hHeld, (by (with_reducible repeat (first | apply Kd.R_alloc | apply Kd.R_drewN | apply Kd.R_drew)); exact HO489.out), (by (with_reducible repeat (first | refine blk_drewN ?_ _ | refine blk_drew ?_ | refine blk_alloc ?_ _)); exact BK484.out), (by (with_reducible repeat (first | refine blk_drewN ?_ _ | refine blk_drew ?_ | refine blk_alloc ?_ _)); exact BK485.out), (by (with_reducible repeat (first | refine blk_drewN ?_ _ | refine blk_drew ?_ | refine blk_alloc ?_ _)); exact BK490.out), GW490.out, GE490.out, NB484_490.out, NB490_484.out, NB485_490.out, NB490_485.out, (by repeat (first | (with_reducible first | exact HB.out | apply below_alloc | apply pw_below_drewN | apply below_drew1 | refine below_set ?_ GE484.out | refine below_set ?_ GE485.out | refine below_set ?_ GE490.out) | exact HB.out))⟩)
   ·skip
    refine box_step ?hg (N := 4) ?hd (cs := #[.int .i64 0, .slice none 0 0]) (t := 26) ?hr ?_; (case hd => rfl); (case hg => rfl); (case hr => first | (go_simp; done) | (go_simp; rfl))
    intro gb490 hg w11 hbox hb
    have n0_ := Aside0.mk (blk_below (g := gb484) (o := .cells #[.int .i64 a0_0, .slice A0_1 l0_1.length c0_1] 26 (0, 0)) (by (with_reducible repeat (first | refine blk_drewN ?_ _ | refine blk_drew ?_ | refine blk_alloc ?_ _)); exact BK484.out) hb)
    have n1_ := Aside0.mk (blk_below (g := gb485) (o := .cells #[.int .i64 0, .slice none 0 0] 26 (0, 0)) (by (with_reducible repeat (first | refine blk_drewN ?_ _ | refine blk_drew ?_ | refine blk_alloc ?_ _)); exact BK485.out) hb)
    have n2_ := Aside0.mk (below_step (by repeat (first | (with_reducible first | exact HB.out | apply below_alloc | apply pw_below_drewN | apply below_drew1 | refine below_set ?_ GE484.out | refine below_set ?_ GE485.out) | exact HB.out)) hb)
    have n3_ := Aside0.mk (hbox)
    have n4_ := Aside0.mk ((by rw [hg]; exact (below_size (by repeat (first | (with_reducible first | exact HB.out | apply below_alloc | apply pw_below_drewN | apply below_drew1 | refine below_set ?_ GE484.out | refine below_set ?_ GE485.out) | exact HB.out))) : w.heap.size ≤ gb490))
    have n5_ := Aside0.mk ((by rw [hg]; exact (below_size (by repeat (first | (with_reducible first | exact HB.out | apply below_alloc | apply pw_below_drewN | apply below_drew1 | refine below_set ?_ GE484.out | refine below_set ?_ GE485.out) | exact HB.out))) : w.heap.size ≤ gb490))
    have n6_ := Aside0.mk ((by rw [hg]; exact Nat.ne_of_lt (blk_lt (g := gb484) (o := .cells #[.int .i64 a0_0, .slice A0_1 l0_1.length c0_1] 26 (0, 0)) (by (with_reducible repeat (first | refine blk_drewN ?_ _ | refine blk_drew ?_ | refine blk_alloc ?_ _)); exact BK484.out)) : gb484 ≠ gb490))
    have n7_ := Aside0.mk ((by rw [hg]; exact Nat.ne_of_gt (blk_lt (g := gb484) (o := .cells #[.int .i64 a0_0, .slice A0_1 l0_1.length c0_1] 26 (0, 0)) (by (with_reducible repeat (first | refine blk_drewN ?_ _ | refine blk_drew ?_ | refine blk_alloc ?_ _)); exact BK484.out)) : gb490 ≠ gb484))
    have n8_ := Aside0.mk ((by rw [hg]; exact Nat.ne_of_lt (blk_lt (g := gb485) (o := .cells #[.int .i64 0, .slice none 0 0] 26 (0, 0)) (by (with_reducible repeat (first | refine blk_drewN ?_ _ | refine blk_drew ?_ | refine blk_alloc ?_ _)); exact BK485.out)) : gb485 ≠ gb490))
    have n9_ := Aside0.mk ((by rw [hg]; exact Nat.ne_of_gt (blk_lt (g := gb485) (o := .cells #[.int .i64 0, .slice none 0 0] 26 (0, 0)) (by (with_reducible repeat (first | refine blk_drewN ?_ _ | refine blk_drew ?_ | refine blk_alloc ?_ _)); exact BK485.out)) : gb490 ≠ gb485))
    clear BK484
    clear BK485
    clear HB
    have BK484 := n0_
    have BK485 := n1_
    have HB := n2_
    have BK490 := n3_
    have GW490 := n4_
    have GE490 := n5_
    have NB484_490 := n6_
    have NB490_484 := n7_
    have NB485_490 := n8_
    have NB490_485 := n9_
    clear n0_ n1_ n2_ n3_ n4_ n5_ n6_ n7_ n8_ n9_
    clear hb hbox hg
    refine hK.out _ _ ⟨(blk_cell BK484.out 0).trans rfl, (blk_cell BK484.out 1).trans rfl⟩ (fun hHeld => ?_)
    clear hK K
    refine norm_ (a' := ?_) ?_ ?_
    rotate_left
    ·show Act.put _ (some 4) _ = _
     simp only [Act.put, L_,M_,N_, i64_w, i32_w]
     rfl
    refine one_ (i := 4) (N := some 15) #[T,T,T,T,T,F,T,F] rfl rfl (one_of HT_.out (by kernel_rfl)) (by decide) (fun K hK => ?_)
    refine goes_ Tryd.func112 (by kernel_rfl) rfl #[.slice A0_1 l0_1.length c0_1] (by rfl) rfl rfl (by (try simp only [List.map_toArray, List.map_cons, List.map_nil]); first | done | rfl | (simp only [List.length_drop, List.length_take]; rfl)) ?_
    with_reducible refine (spec_l1Own.calls _ _ l0_1 t487 _ ?side1 ?side2 A4.out).mono ?_
    (case side1 => repeat (first | exact (Kd.C_below HR0_1.out HB.out) | (with_reducible refine Kd.C_alloc ?_ _) | (with_reducible refine Kd.C_drewN ?_ _) | (with_reducible refine Kd.C_drew ?_)))
    (case side2 => exact HC0_1.out)
    rintro e w12 ⟨v488, rfl, ho0, hb⟩
    refine ⟨_, rfl, ?_⟩
    have n0_ := Aside0.mk (Kd.R_lower ho0 (below_size (by repeat (first | (with_reducible first | exact HB.out | apply below_alloc | apply pw_below_drewN | apply below_drew1 | refine below_set ?_ GE484.out | refine below_set ?_ GE485.out | refine below_set ?_ GE490.out) | exact HB.out))))
    have n1_ := Aside0.mk (blk_below (g := gb484) (o := .cells #[.int .i64 a0_0, .slice A0_1 l0_1.length c0_1] 26 (0, 0)) (by (with_reducible repeat (first | refine blk_drewN ?_ _ | refine blk_drew ?_ | refine blk_alloc ?_ _)); exact BK484.out) hb)
    have n2_ := Aside0.mk (blk_below (g := gb485) (o := .cells #[.int .i64 0, .slice none 0 0] 26 (0, 0)) (by (with_reducible repeat (first | refine blk_drewN ?_ _ | refine blk_drew ?_ | refine blk_alloc ?_ _)); exact BK485.out) hb)
    have n3_ := Aside0.mk (blk_below (g := gb490) (o := .cells #[.int .i64 0, .slice none 0 0] 26 (0, 0)) (by (with_reducible repeat (first | refine blk_drewN ?_ _ | refine blk_drew ?_ | refine blk_alloc ?_ _)); exact BK490.out) hb)
    have n4_ := Aside0.mk (below_step (by repeat (first | (with_reducible first | exact HB.out | apply below_alloc | apply pw_below_drewN | apply below_drew1 | refine below_set ?_ GE484.out | refine below_set ?_ GE485.out | refine below_set ?_ GE490.out) | exact HB.out)) hb)
    clear BK484
    clear BK485
    clear BK490
    clear HB
    have HO489 := n0_
    have BK484 := n1_
    have BK485 := n2_
    have BK490 := n3_
    have HB := n4_
    clear n0_ n1_ n2_ n3_ n4_
    (try clear hb)
    (try clear hb2)
    (try clear hk)
    (try clear hi)
    (try clear ho0)
    obtain ⟨Ao13, co13, eo13⟩ := Kd.R_slice HO489.out
    (first | subst eo13 | (injection eo13 with f1_ f2_ f3_; have f4_ := f1_.symm; have f5_ := f3_.symm; clear f1_ f2_ f3_; subst f4_; subst f5_))
    refine hK.out _ _ ⟨(blk_cell BK484.out 0).trans rfl, (blk_cell BK484.out 1).trans rfl⟩ (fun hHeld => ?_)
    clear hK K
    refine norm_ (a' := ?_) ?_ ?_
    rotate_left
    ·show Act.put _ (some 15) _ = _
     simp only [Act.put, L_,M_,N_, i64_w, i32_w]
     rfl
    refine pure_ (i := 5) (N := some 16) (v := ?_) (a' := ?_) #[T,T,T,T,T,T,T,F] rfl rfl (any_of HT_.out (by kernel_rfl)) (fun _ _ _ h => h) (Or.inl ⟨by rfl, ?_⟩) ?_ ?_
    rotate_left;·intro w';go_simp;with_reducible rfl
    rotate_left;·simp only [Act.put, L_,M_,N_, i64_w, i32_w];rfl
    exact norm_ (by simp only [putAll, Act.put, L_,M_,N_]) (hCont (.slice Ao13 t487.length co13, gb490) _ ⟨hHeld, (by (with_reducible repeat (first | apply Kd.R_alloc | apply Kd.R_drewN | apply Kd.R_drew)); exact HO489.out), (by (with_reducible repeat (first | refine blk_drewN ?_ _ | refine blk_drew ?_ | refine blk_alloc ?_ _)); exact BK484.out), (by (with_reducible repeat (first | refine blk_drewN ?_ _ | refine blk_drew ?_ | refine blk_alloc ?_ _)); exact BK485.out), (by (with_reducible repeat (first | refine blk_drewN ?_ _ | refine blk_drew ?_ | refine blk_alloc ?_ _)); exact BK490.out), GW490.out, GE490.out, NB484_490.out, NB490_484.out, NB485_490.out, NB490_485.out, (by repeat (first | (with_reducible first | exact HB.out | apply below_alloc | apply pw_below_drewN | apply below_drew1 | refine below_set ?_ GE484.out | refine below_set ?_ GE485.out | refine below_set ?_ GE490.out) | exact HB.out))⟩)
  rintro ⟨v488, gb490⟩ w14 ⟨hS_, h0_, h1_, h2_, h3_, h4_, h5_, h6_, h7_, h8_, h9_, h10_⟩
  have n0_ : Aside0 (Kd.R (Kd.int .i64) 3 w14 w.heap.size (fun _ => True) v488 t487) := ⟨h0_⟩
  have n1_ : Aside0 (w14.heap[gb484]? = some (.cells #[.int .i64 a0_0, .slice A0_1 l0_1.length c0_1] 26 (0, 0))) := ⟨h1_⟩
  have n2_ : Aside0 (w14.heap[gb485]? = some (.cells #[.int .i64 0, .slice none 0 0] 26 (0, 0))) := ⟨h2_⟩
  have n3_ : Aside0 (w14.heap[gb490]? = some (.cells #[.int .i64 0, .slice none 0 0] 26 (0, 0))) := ⟨h3_⟩
  have n4_ : Aside0 (w.heap.size ≤ gb490) := ⟨h4_⟩
  have n5_ : Aside0 (w.heap.size ≤ gb490) := ⟨h5_⟩
  have n6_ : Aside0 (gb484 ≠ gb490) := ⟨h6_⟩
  have n7_ : Aside0 (gb490 ≠ gb484) := ⟨h7_⟩
  have n8_ : Aside0 (gb485 ≠ gb490) := ⟨h8_⟩
  have n9_ : Aside0 (gb490 ≠ gb485) := ⟨h9_⟩
  have n10_ : Aside0 (Below w.heap.size w w14) := ⟨h10_⟩
  clear BK484
  clear BK485
  clear HB
  clear h0_ h1_ h2_ h3_ h4_ h5_ h6_ h7_ h8_ h9_ h10_
  have HO489 := n0_
  have BK484 := n1_
  have BK485 := n2_
  have BK490 := n3_
  have GW490 := n4_
  have GE490 := n5_
  have NB484_490 := n6_
  have NB490_484 := n7_
  have NB485_490 := n8_
  have NB490_485 := n9_
  have HB := n10_
  clear n0_ n1_ n2_ n3_ n4_ n5_ n6_ n7_ n8_ n9_ n10_
  have hHeld : w14.cell? ⟨gb484, 0, none⟩ = some (.int .i64 a0_0) ∧ w14.cell? ⟨gb484, 1, none⟩ = some (.slice A0_1 l0_1.length c0_1) := hS_
  obtain ⟨Ao15, co15, eo15⟩ := Kd.R_slice HO489.out
  (first | subst eo15 | (injection eo15 with f1_ f2_ f3_; have f4_ := f1_.symm; have f5_ := f3_.symm; clear f1_ f2_ f3_; subst f4_; subst f5_))
  refine norm_ (a' := ?_) ?_ ?_
  rotate_left;·simp only [putAll, Act.put, L_,M_,N_];rfl
  refine one_ (i := 7) (N := none) #[T,T,T,T,T,T,T,T] rfl rfl (one_of HT_.out (by kernel_rfl)) (by decide) (fun K hK => ?_)
  have hs16 : w14.cell? ⟨gb490, 0, none⟩ = some (.int .i64 0) := (blk_cell BK490.out 0).trans rfl
  have hfs16 := blk_frozen BK490.out 0
  have hns16_0 := NB484_490.out
  have hns16_1 := NB485_490.out
  have hms16_0 := NB490_484.out
  have hms16_1 := NB490_485.out
  have hs17 : w14.cell? ⟨gb490, 1, none⟩ = some (.slice none 0 0) := (blk_cell BK490.out 1).trans rfl
  have hfs17 := blk_frozen BK490.out 1
  have hns17_0 := NB484_490.out
  have hns17_1 := NB485_490.out
  have hms17_0 := NB490_484.out
  have hms17_1 := NB490_485.out
  refine skip_ (w1 := ?_) (by rfl) rfl ?_ ?_
  rotate_left
  ·go_simp
   rfl
  refine hK.out _ _ ⟨((cell_far (p := ⟨gb490, _, none⟩) NB484_490.out _).trans (((cell_far (p := ⟨gb490, _, none⟩) NB484_490.out _).trans (hHeld.1)))), ((cell_far (p := ⟨gb490, _, none⟩) NB484_490.out _).trans (((cell_far (p := ⟨gb490, _, none⟩) NB484_490.out _).trans (hHeld.2))))⟩ (fun hHeld => ?_)
  clear hK K
  refine done_ (done_of HT_.out (by kernel_rfl)) ?_
  have hnb18 := NB490_484.out
  have hnc18 := NB484_490.out
  have hnb19 := NB490_485.out
  have hnc19 := NB485_490.out
  have hcz20_0 : w14.cell? ⟨gb490, 0, none⟩ = some (.int .i64 0) := (blk_cell BK490.out 0).trans rfl
  have hcz20_1 : w14.cell? ⟨gb490, 1, none⟩ = some (.slice none 0 0) := (blk_cell BK490.out 1).trans rfl
  have hfz20_0 := blk_frozen BK490.out 0
  have hfz20_1 := blk_frozen BK490.out 1
  try go_wp2
  go_loopg [20] k (fun kq v20 w' => ∃ (x20_1 : Int) (x491001_1 : List Int) (u491001 : Value), v20 = .int .i64 x20_1 ∧ Aside0 (spec_CloseRelation.l0 kq (t487.length : Int) x20_1 a0_0 x491001_1 = some (r1, r2, r3)) ∧ Aside0 (kq ≤ k) ∧ Aside0 (Kd.R (Kd.int .i64) 3 w' w.heap.size (fun _ => True) u491001 x491001_1) ∧ Aside0 (w'.heap[gb484]? = some (.cells #[.int .i64 a0_0, (.slice A0_1 l0_1.length c0_1)] 26 (0, 0))) ∧ Aside0 (w'.heap[gb485]? = some (.cells #[.int .i64 0, (.slice none 0 0)] 26 (0, 0))) ∧ Aside0 (w'.heap[gb490]? = some (.cells #[.int .i64 a0_0, u491001] 26 (0, 0))) ∧ Aside0 (Below w.heap.size w w'))
  case atStart => exact ⟨(0), (t487), (.slice Ao15 t487.length co15), (by first | rfl | (simp; done) | (simp [*]; done)), H', ⟨Nat.le_refl _⟩, ⟨by (with_reducible repeat (first | apply Kd.R_alloc | apply Kd.R_drewN | apply Kd.R_drew)); exact Kd.R_mono (Kd.R_far (p := ⟨gb490, 1, none⟩) (Kd.R_far (p := ⟨gb490, 0, none⟩) (Kd.R_types HO489.out BK490.out (by decide)) (fun _ hk => hk.2) (.int .i64 a0_0)) (fun _ hk => hk.2) (.slice Ao15 t487.length co15)) (fun _ hk => trivial)⟩, ⟨by (with_reducible repeat (first | refine blk_drewN ?_ _ | refine blk_drew ?_ | refine blk_alloc ?_ _)); refine blk_far ?_ NB484_490.out _; (with_reducible repeat (first | refine blk_drewN ?_ _ | refine blk_drew ?_ | refine blk_alloc ?_ _)); refine blk_far ?_ NB484_490.out _; (with_reducible repeat (first | refine blk_drewN ?_ _ | refine blk_drew ?_ | refine blk_alloc ?_ _)); exact BK484.out⟩, ⟨by (with_reducible repeat (first | refine blk_drewN ?_ _ | refine blk_drew ?_ | refine blk_alloc ?_ _)); refine blk_far ?_ NB485_490.out _; (with_reducible repeat (first | refine blk_drewN ?_ _ | refine blk_drew ?_ | refine blk_alloc ?_ _)); refine blk_far ?_ NB485_490.out _; (with_reducible repeat (first | refine blk_drewN ?_ _ | refine blk_drew ?_ | refine blk_alloc ?_ _)); exact BK485.out⟩, ⟨by (with_reducible repeat (first | refine blk_drewN ?_ _ | refine blk_drew ?_ | refine blk_alloc ?_ _)); refine blk_put (cs := #[.int .i64 a0_0, .slice none 0 0]) ?_ 1 _ rfl; (with_reducible repeat (first | refine blk_drewN ?_ _ | refine blk_drew ?_ | refine blk_alloc ?_ _)); refine blk_put (cs := #[.int .i64 0, .slice none 0 0]) ?_ 0 _ rfl; (with_reducible repeat (first | refine blk_drewN ?_ _ | refine blk_drew ?_ | refine blk_alloc ?_ _)); exact BK490.out⟩, ⟨by repeat (first | (with_reducible first | exact HB.out | apply below_alloc | apply pw_below_drewN | apply below_drew1 | refine below_set ?_ GE484.out | refine below_set ?_ GE485.out | refine below_set ?_ GE490.out) | exact HB.out)⟩⟩
  case round =>
   clear H'
   try clear c1
   try clear p2
   try clear c3
   try clear c7
   try clear c10
   try clear c11
   try clear c18
   try clear c19
   try clear hcz20_0
   try clear hcz20_1
   try clear hcz8_0
   try clear hcz8_1
   try clear hfz20_0
   try clear hfz20_1
   try clear hfz8_0
   try clear hfz8_1
   obtain ⟨x20_1, x491001_1, u491001, rfl, HA, HK1, HO_491001, BK484, BK485, BK490, HB⟩ := hrel
   cases gk with
   | zero => exact absurd HA.out (by simp [spec_CloseRelation.l0])
   | succ k1 =>
    have H := HA.out
    clear HA
    simp only [spec_CloseRelation.l0] at H
    by_cases c21 : x20_1 < (t487.length : Int)
    ·rw [if_pos c21] at H
     have c21b0 : decide (x20_1 < (t487.length : Int)) = true := decide_eq_true c21
     clear c21
     have H' := Aside0.mk H
     clear H
     have hnb22 := NB490_484.out
     have hnc22 := NB484_490.out
     have hnb23 := NB490_485.out
     have hnc23 := NB485_490.out
     have hcz24_0 : wr.cell? ⟨gb490, 0, none⟩ = some (.int .i64 a0_0) := (blk_cell BK490.out 0).trans rfl
     have hcz24_1 : wr.cell? ⟨gb490, 1, none⟩ = some (u491001) := (blk_cell BK490.out 1).trans rfl
     have hfz24_0 := blk_frozen BK490.out 0
     have hfz24_1 := blk_frozen BK490.out 1
     obtain ⟨Ao25, co25, eo25⟩ := Kd.R_slice HO_491001.out
     subst eo25
     go_wp2
     go_loopg [26] k1 (fun kq v26 w' => ∃ (x26_2 : Int) (x491001_2 : List Int) (u491001 : Value), v26 = .int .i64 x26_2 ∧ Aside0 (spec_CloseRelation.l1 kq x20_1 (t487.length : Int) x20_1 (x491001_1.length : Int) x26_2 a0_0 x491001_2 = some (r1, r2, r3)) ∧ Aside0 (kq ≤ k1) ∧ Aside0 (Kd.R (Kd.int .i64) 3 w' w.heap.size (fun _ => True) u491001 x491001_2) ∧ Aside0 (w'.heap[gb484]? = some (.cells #[.int .i64 a0_0, (.slice A0_1 l0_1.length c0_1)] 26 (0, 0))) ∧ Aside0 (w'.heap[gb485]? = some (.cells #[.int .i64 0, (.slice none 0 0)] 26 (0, 0))) ∧ Aside0 (w'.heap[gb490]? = some (.cells #[.int .i64 a0_0, u491001] 26 (0, 0))) ∧ Aside0 (Below w.heap.size w w'))
     case atStart => exact ⟨(0), (x491001_1), (.slice Ao25 x491001_1.length co25), (by first | rfl | (simp; done) | (simp [*]; done)), H', ⟨Nat.le_refl _⟩, ⟨by (with_reducible repeat (first | apply Kd.R_alloc | apply Kd.R_drewN | apply Kd.R_drew)); exact HO_491001.out⟩, ⟨by (with_reducible repeat (first | refine blk_drewN ?_ _ | refine blk_drew ?_ | refine blk_alloc ?_ _)); exact BK484.out⟩, ⟨by (with_reducible repeat (first | refine blk_drewN ?_ _ | refine blk_drew ?_ | refine blk_alloc ?_ _)); exact BK485.out⟩, ⟨by (with_reducible repeat (first | refine blk_drewN ?_ _ | refine blk_drew ?_ | refine blk_alloc ?_ _)); exact BK490.out⟩, ⟨by repeat (first | (with_reducible first | exact HB.out | apply below_alloc | apply pw_below_drewN | apply below_drew1 | refine below_set ?_ GE484.out | refine below_set ?_ GE485.out | refine below_set ?_ GE490.out) | exact HB.out)⟩⟩
     case round =>
      clear H'
      try clear c1
      try clear c2
      try clear p2
      try clear c3
      try clear c7
      try clear c10
      try clear c11
      try clear c18
      try clear c19
      try clear c21
      try clear c21b0
      try clear c22
      try clear c23
      try clear hcz20_0
      try clear hcz20_1
      try clear hcz24_0
      try clear hcz24_1
      try clear hcz8_0
      try clear hcz8_1
      try clear hfz20_0
      try clear hfz20_1
      try clear hfz24_0
      try clear hfz24_1
      try clear hfz8_0
      try clear hfz8_1
      try clear p2
      obtain ⟨x26_2, x491001_2, u491001, rfl, HA, HK2, HO_491001, BK484, BK485, BK490, HB⟩ := hrel
      cases gk with
      | zero => exact absurd HA.out (by simp [spec_CloseRelation.l1])
      | succ k2 =>
       have H := HA.out
       clear HA
       simp only [spec_CloseRelation.l1] at H
       by_cases c26 : x26_2 < (x491001_1.length : Int)
       ·rw [if_pos c26] at H
        have c26b0 : decide (x26_2 < (x491001_1.length : Int)) = true := decide_eq_true c26
        clear c26
        by_cases c27 : 0 ≤ x26_2
        ·rw [if_pos c27] at H
         have c27b0 : decide (0 ≤ x26_2) = true := decide_eq_true c27
         clear c27
         by_cases c28 : x26_2 < (x491001_2.length : Int)
         ·rw [if_pos c28] at H
          have c28b0 : decide (x26_2 < (x491001_2.length : Int)) = true := decide_eq_true c28
          clear c28
          replace H := Option.bind_eq_some_iff.mp H
          obtain ⟨t492, A290, H⟩ := H
          replace H : (if t492 = true then (if 0 ≤ x20_1 then (if x20_1 < (x491001_2.length : Int) then (spec_CloseRelation.l1 k2 x20_1 (t487.length : Int) x20_1 (x491001_1.length : Int) (wrap64 (x26_2 + 1)) a0_0 (x491001_2.set (x26_2 : Int).toNat (Go.bits .or .i64 (rd x491001_2 x26_2) (rd x491001_2 x20_1)))) else (none)) else (none)) else (spec_CloseRelation.l1 k2 x20_1 (t487.length : Int) x20_1 (x491001_1.length : Int) (wrap64 (x26_2 + 1)) a0_0 x491001_2)) = some (r1, r2, r3) := H
          have A29 := Aside0.mk A290
          clear A290
          by_cases c30 : t492 = true
          ·subst c30
           have H1 : (if 0 ≤ x20_1 then (if x20_1 < (x491001_2.length : Int) then (spec_CloseRelation.l1 k2 x20_1 (t487.length : Int) x20_1 (x491001_1.length : Int) (wrap64 (x26_2 + 1)) a0_0 (x491001_2.set (x26_2 : Int).toNat (Go.bits .or .i64 (rd x491001_2 x26_2) (rd x491001_2 x20_1)))) else (none)) else (none)) = some (r1, r2, r3) := by rw [if_pos rfl] at H; exact H
           clear H
           have H := H1
           clear H1
           by_cases c31 : 0 ≤ x20_1
           ·rw [if_pos c31] at H
            have c31b0 : decide (0 ≤ x20_1) = true := decide_eq_true c31
            clear c31
            by_cases c32 : x20_1 < (x491001_2.length : Int)
            ·rw [if_pos c32] at H
             have c32b0 : decide (x20_1 < (x491001_2.length : Int)) = true := decide_eq_true c32
             clear c32
             obtain ⟨y495, hy495⟩ : ∃ y_ : List Int, y_ = (x491001_2.set (x26_2 : Int).toNat (Go.bits .or .i64 (rd x491001_2 x26_2) (rd x491001_2 x20_1))) := ⟨_, rfl⟩
             replace H : (spec_CloseRelation.l1 k2 x20_1 (t487.length : Int) x20_1 (x491001_1.length : Int) (wrap64 (x26_2 + 1)) a0_0 y495) = some (r1, r2, r3) := by first | (rw [hy495]; with_reducible exact H) | (have H2_ := (Option.bind_some _ _).symm.trans H; rw [hy495]; with_reducible exact H2_) | (have H2_ := (Option.bind_some _ _).symm.trans H; with_reducible exact H2_) | with_reducible exact H | (rw [hy495]; exact H) | exact H
             have Ny495 := Aside0.mk hy495
             clear hy495
             have H' := Aside0.mk H
             clear H
             have hnb34 := NB490_484.out
             have hnc34 := NB484_490.out
             have hnb35 := NB490_485.out
             have hnc35 := NB485_490.out
             have hcz36_0 : wr.cell? ⟨gb490, 0, none⟩ = some (.int .i64 a0_0) := (blk_cell BK490.out 0).trans rfl
             have hcz36_1 : wr.cell? ⟨gb490, 1, none⟩ = some (u491001) := (blk_cell BK490.out 1).trans rfl
             have hfz36_0 := blk_frozen BK490.out 0
             have hfz36_1 := blk_frozen BK490.out 1
             obtain ⟨Ao37, co37, eo37⟩ := Kd.R_slice HO_491001.out
             subst eo37
             have p491 : 0 ≤ (x26_2 : Int) := of_decide_eq_true (by first | (with_reducible assumption) | assumption)
             have q491 : x26_2 < (x491001_2.length : Int) := of_decide_eq_true (by first | (with_reducible assumption) | assumption)
             obtain ⟨ad491, e491, hx491_0⟩ := Kd.at_int (Kd.R_reads' HO_491001.out).2.2 x26_2 p491 q491
             cases e491
             replace p491 := eq_true p491
             replace q491 := eq_true q491
             try go_wp2_with (first | ((with_reducible refine gate_callee (f := 113) rfl ?_); refine goesL_ (some 35) rfl rfl Tryd.func113 (by kernel_rfl) rfl #[.int .i64 (rd x491001_2 x26_2), .int .i64 x20_1] rfl (by (try simp only [List.map_toArray, List.map_cons, List.map_nil]); first | done | rfl | (simp only [List.length_drop, List.length_take]; rfl)) ?_; (with_reducible refine (spec_orHas.calls (rd x491001_2 x26_2) x20_1 true _ A29.out).mono ?_); rintro e w' ⟨rfl, ⟨nd, rfl⟩⟩; refine ⟨_, rfl, ?_⟩; (try (rw [drewN_self wr]; generalize hq_ : World.drewN wr _ = wr; have n0_ : Aside0 (Kd.R (Kd.int .i64) 3 wr w.heap.size (fun _ => True) (.slice (some ad491) x491001_2.length co37) x491001_2) := ⟨by rw [← hq_]; exact (by (with_reducible repeat (first | apply Kd.R_alloc | apply Kd.R_drewN | apply Kd.R_drew)); exact HO_491001.out)⟩; have n1_ : Aside0 (wr.heap[gb484]? = some (.cells #[.int .i64 a0_0, .slice A0_1 l0_1.length c0_1] 26 (0, 0))) := ⟨by rw [← hq_]; exact (by (with_reducible repeat (first | refine blk_drewN ?_ _ | refine blk_drew ?_ | refine blk_alloc ?_ _)); exact BK484.out)⟩; have n2_ : Aside0 (wr.heap[gb485]? = some (.cells #[.int .i64 0, .slice none 0 0] 26 (0, 0))) := ⟨by rw [← hq_]; exact (by (with_reducible repeat (first | refine blk_drewN ?_ _ | refine blk_drew ?_ | refine blk_alloc ?_ _)); exact BK485.out)⟩; have n3_ : Aside0 (wr.heap[gb490]? = some (.cells #[.int .i64 a0_0, .slice (some ad491) x491001_2.length co37] 26 (0, 0))) := ⟨by rw [← hq_]; exact (by (with_reducible repeat (first | refine blk_drewN ?_ _ | refine blk_drew ?_ | refine blk_alloc ?_ _)); exact BK490.out)⟩; have n4_ : Aside0 (Below w.heap.size w wr) := ⟨by rw [← hq_]; exact (by repeat (first | (with_reducible first | exact HB.out | apply below_alloc | apply pw_below_drewN | apply below_drew1 | refine below_set ?_ GE484.out | refine below_set ?_ GE485.out | refine below_set ?_ GE490.out) | exact HB.out))⟩; clear HO_491001 BK484 BK485 BK490 HB hq_; have HO_491001 := n0_; have BK484 := n1_; have BK485 := n2_; have BK490 := n3_; have HB := n4_; clear n0_ n1_ n2_ n3_ n4_; have hcu484_0 : wr.cell? ⟨gb484, 0, none⟩ = some (.int .i64 a0_0) := (blk_cell BK484.out 0).trans rfl; have hfu484_0 := blk_frozen BK484.out 0; have hcu484_1 : wr.cell? ⟨gb484, 1, none⟩ = some (.slice A0_1 l0_1.length c0_1) := (blk_cell BK484.out 1).trans rfl; have hfu484_1 := blk_frozen BK484.out 1; have hcu485_0 : wr.cell? ⟨gb485, 0, none⟩ = some (.int .i64 0) := (blk_cell BK485.out 0).trans rfl; have hfu485_0 := blk_frozen BK485.out 0; have hcu485_1 : wr.cell? ⟨gb485, 1, none⟩ = some (.slice none 0 0) := (blk_cell BK485.out 1).trans rfl; have hfu485_1 := blk_frozen BK485.out 1; have hcu490_0 : wr.cell? ⟨gb490, 0, none⟩ = some (.int .i64 a0_0) := (blk_cell BK490.out 0).trans rfl; have hfu490_0 := blk_frozen BK490.out 0; have hcu490_1 : wr.cell? ⟨gb490, 1, none⟩ = some (.slice (some ad491) x491001_2.length co37) := (blk_cell BK490.out 1).trans rfl; have hfu490_1 := blk_frozen BK490.out 1))))
             have n0_ := Aside0.mk (Kd.R_drew HO_491001.out)
             have n1_ := Aside0.mk (blk_drew BK484.out)
             have n2_ := Aside0.mk (blk_drew BK485.out)
             have n3_ := Aside0.mk (blk_drew BK490.out)
             have n4_ := Aside0.mk (below_drew1 HB.out)
             clear HO_491001
             clear BK484
             clear BK485
             clear BK490
             clear HB
             have HO_491001 := n0_
             have BK484 := n1_
             have BK485 := n2_
             have BK490 := n3_
             have HB := n4_
             clear n0_ n1_ n2_ n3_ n4_
             have p493 : 0 ≤ (x26_2 : Int) := of_decide_eq_true (by first | (with_reducible assumption) | assumption)
             have q493 : x26_2 < (x491001_2.length : Int) := of_decide_eq_true (by first | (with_reducible assumption) | assumption)
             obtain ⟨ad493, e493, hx493_0⟩ := Kd.at_int (Kd.R_reads' HO_491001.out).2.2 x26_2 p493 q493
             obtain rfl : ad491 = ad493 := (by injection e493)
             replace p493 := eq_true p493
             replace q493 := eq_true q493
             have p494 : 0 ≤ (x20_1 : Int) := of_decide_eq_true (by first | (with_reducible assumption) | assumption)
             have q494 : x20_1 < (x491001_2.length : Int) := of_decide_eq_true (by first | (with_reducible assumption) | assumption)
             obtain ⟨ad494, e494, hx494_0⟩ := Kd.at_int (Kd.R_reads' HO_491001.out).2.2 x20_1 p494 q494
             obtain rfl : ad491 = ad494 := (by injection e494)
             replace p494 := eq_true p494
             replace q494 := eq_true q494
             have p33 : 0 ≤ (x26_2 : Int) := of_decide_eq_true (by first | (with_reducible assumption) | assumption)
             have q33 : (x26_2 : Int) < ((x491001_2.length : Int) : Int) := of_decide_eq_true (by first | (with_reducible assumption) | assumption)
             obtain ⟨go33, co33, eo33, gb33, gl33, cl33, HG33⟩ := Kd.R_form HO_491001.out (by omega)
             (first | cases eo33 | (injection eo33 with ea_ en_ ec_; (first | subst ea_ | (injection ea_ with ea_; subst ea_)); subst ec_; clear en_))
             have GB33 := Aside0.mk gb33
             have GG33 := Aside0.mk HG33
             clear gb33 gl33 HG33
             (first | simp only [add_plain] at hx491_0 | skip)
             (first | simp only [add_plain] at hx493_0 | skip)
             (first | simp only [add_plain] at hx494_0 | skip)
             obtain ⟨hx33_0, hf33_0⟩ := Kd.R_celln 0 HO_491001.out (x26_2 : Int) p33 q33
             replace p33 := eq_true p33
             replace q33 := eq_true q33
             have HP39 := Kd.R_putn HO_491001.out (x26_2 : Int) (Go.bits .or .i64 (rd x491001_2 x26_2) (rd x491001_2 x20_1))
             rw [← Ny495.out] at HP39
             have HQ39 := Aside0.mk HP39
             clear HP39
             refine start_ (n := 13) (S := fun w' => w'.cell? ⟨gb490, 0, none⟩ = some (.int .i64 a0_0) ∧ w'.cell? ⟨gb490, 1, none⟩ = some (.slice (some ⟨go33, 0, none⟩) x491001_2.length co37) ∧ w'.cell? ⟨go33, (x26_2).toNat, none⟩ = some (.int .i64 (rd x491001_2 x26_2)) ∧ w'.cell? ⟨go33, (x20_1).toNat, none⟩ = some (.int .i64 (rd x491001_2 x20_1))) (ds := [12]) #[F,F,F,F,F,F,F,F,F,F,F,F,F] (by kernel_rfl) rfl rfl ⟨(blk_cell BK490.out 0).trans rfl, (blk_cell BK490.out 1).trans rfl, hx493_0, hx494_0⟩ (fun hHeld => ?_); refine with_tabW spec_CloseRelation.tab11 spec_CloseRelation.bits11 (fun HT_ HW_ => ?_)
             generalize wr.drew = w38 at HO_491001 BK484 BK485 BK490 HB GG33 HQ39 hf33_0 hx33_0 hx491_0 hx493_0 hx494_0 hHeld ⊢
             refine pure_ (i := 0) (N := some 36) (v := ?_) (a' := ?_) #[T,F,F,F,F,F,F,F,F,F,F,F,F] rfl rfl (any_of HT_.out (by kernel_rfl)) (fun _ _ _ h => h) (Or.inl ⟨by rfl, ?_⟩) ?_ ?_
             rotate_left;·intro w';go_simp;with_reducible rfl
             rotate_left;·simp only [Act.put, L_,M_,N_, i64_w, i32_w];rfl
             refine pure_ (i := 2) (N := some 38) (v := ?_) (a' := ?_) #[T,F,T,F,F,F,F,F,F,F,F,F,F] rfl rfl (any_of HT_.out (by kernel_rfl)) (fun _ _ _ h => h) (Or.inl ⟨by rfl, ?_⟩) ?_ ?_
             rotate_left;·intro w';go_simp;with_reducible rfl
             rotate_left;·simp only [Act.put, L_,M_,N_, i64_w, i32_w];rfl
             refine pure_ (i := 5) (N := some 41) (v := ?_) (a' := ?_) #[T,F,T,F,F,T,F,F,F,F,F,F,F] rfl rfl (any_of HT_.out (by kernel_rfl)) (fun _ _ _ h => h) (Or.inl ⟨by rfl, ?_⟩) ?_ ?_
             rotate_left;·intro w';go_simp;with_reducible rfl
             rotate_left;·simp only [Act.put, L_,M_,N_, i64_w, i32_w];rfl
             refine pure_ (i := 7) (N := some 43) (v := ?_) (a' := ?_) #[T,F,T,F,F,T,F,T,F,F,F,F,F] rfl rfl (any_of HT_.out (by kernel_rfl)) (fun _ _ _ h => h) (Or.inl ⟨by rfl, ?_⟩) ?_ ?_
             rotate_left;·intro w';go_simp;with_reducible rfl
             rotate_left;·simp only [Act.put, L_,M_,N_, i64_w, i32_w];rfl
             refine take_ (i := 1) (N := some 37) (v := ?_) (a' := ?_) #[T,T,T,F,F,T,F,T,F,F,F,F,F] rfl rfl (take_ofW HT_.out HW_.out (by kernel_rfl)) (fun _ _ _ h => h) (Or.inl ⟨by rfl, ?_⟩) hHeld ?_ ?_
             rotate_left
             ·rintro w' ⟨s0, s1, s2, s3⟩
              go_simp
              with_reducible rfl
             rotate_left;·simp only [Act.put, L_,M_,N_, i64_w, i32_w];rfl
             refine pure_ (i := 3) (N := some 39) (v := ?_) (a' := ?_) #[T,T,T,T,F,T,F,T,F,F,F,F,F] rfl rfl (any_of HT_.out (by kernel_rfl)) (fun _ _ _ h => h) (Or.inl ⟨by rfl, ?_⟩) ?_ ?_
             rotate_left;·intro w';go_simp;with_reducible rfl
             rotate_left;·simp only [Act.put, L_,M_,N_, i64_w, i32_w];rfl
             refine take_ (i := 4) (N := some 40) (v := ?_) (a' := ?_) #[T,T,T,T,T,T,F,T,F,F,F,F,F] rfl rfl (take_ofW HT_.out HW_.out (by kernel_rfl)) (fun _ _ _ h => h) (Or.inl ⟨by rfl, ?_⟩) hHeld ?_ ?_
             rotate_left
             ·rintro w' ⟨s0, s1, s2, s3⟩
              go_simp
              with_reducible rfl
             rotate_left;·simp only [Act.put, L_,M_,N_, i64_w, i32_w];rfl
             refine take_ (i := 6) (N := some 42) (v := ?_) (a' := ?_) #[T,T,T,T,T,T,T,T,F,F,F,F,F] rfl rfl (take_ofW HT_.out HW_.out (by kernel_rfl)) (fun _ _ _ h => h) (Or.inl ⟨by rfl, ?_⟩) hHeld ?_ ?_
             rotate_left
             ·rintro w' ⟨s0, s1, s2, s3⟩
              go_simp
              with_reducible rfl
             rotate_left;·simp only [Act.put, L_,M_,N_, i64_w, i32_w];rfl
             refine pure_ (i := 8) (N := some 44) (v := ?_) (a' := ?_) #[T,T,T,T,T,T,T,T,T,F,F,F,F] rfl rfl (any_of HT_.out (by kernel_rfl)) (fun _ _ _ h => h) (Or.inl ⟨by rfl, ?_⟩) ?_ ?_
             rotate_left;·intro w';go_simp;with_reducible rfl
             rotate_left;·simp only [Act.put, L_,M_,N_, i64_w, i32_w];rfl
             refine take_ (i := 9) (N := some 45) (v := ?_) (a' := ?_) #[T,T,T,T,T,T,T,T,T,T,F,F,F] rfl rfl (take_ofW HT_.out HW_.out (by kernel_rfl)) (fun _ _ _ h => h) (Or.inl ⟨by rfl, ?_⟩) hHeld ?_ ?_
             rotate_left
             ·rintro w' ⟨s0, s1, s2, s3⟩
              go_simp
              with_reducible rfl
             rotate_left;·simp only [Act.put, L_,M_,N_, i64_w, i32_w];rfl
             refine pure_ (i := 10) (N := some 46) (v := ?_) (a' := ?_) #[T,T,T,T,T,T,T,T,T,T,T,F,F] rfl rfl (any_of HT_.out (by kernel_rfl)) (fun _ _ _ h => h) (Or.inl ⟨by rfl, ?_⟩) ?_ ?_
             rotate_left;·intro w';go_simp;with_reducible rfl
             rotate_left;·simp only [Act.put, L_,M_,N_, i64_w, i32_w];rfl
             refine pure_ (i := 11) (N := some 47) (v := ?_) (a' := ?_) #[T,T,T,T,T,T,T,T,T,T,T,T,F] rfl rfl (any_of HT_.out (by kernel_rfl)) (fun _ _ _ h => h) (Or.inl ⟨by rfl, ?_⟩) ?_ ?_
             rotate_left;·intro w';go_simp;with_reducible rfl
             rotate_left;·simp only [Act.put, L_,M_,N_, i64_w, i32_w];rfl
             refine last_ (i := 12) (N := none) #[T,T,T,T,T,T,T,T,T,T,T,T,T] rfl rfl (one_of HT_.out (by kernel_rfl)) (by decide) (fun K hK => ?_)
             refine skip_ (w1 := ?_) (by rfl) rfl ?_ ?_
             rotate_left
             ·go_simp
              rfl
             refine hK.out _ _ ?_
             clear hK K
             refine done_ (done_of HT_.out (by kernel_rfl)) ?_
             try go_wp2
             go_roundg k2
             case measure => have := HK1.out; have := HK2.out; omega
             case rel => exact ⟨(wrap64 (x26_2 + 1)), (y495), (.slice (some ⟨go33, 0, none⟩) x491001_2.length co37), (by first | rfl | (simp; done) | (simp [*]; done)), H', ⟨by have := HK1.out; have := HK2.out; omega⟩, ⟨by (with_reducible repeat (first | apply Kd.R_alloc | apply Kd.R_drewN | apply Kd.R_drew)); exact HQ39.out⟩, ⟨by (with_reducible repeat (first | refine blk_drewN ?_ _ | refine blk_drew ?_ | refine blk_alloc ?_ _)); refine blk_far ?_ (by have h_ := Kd.R_ne HO_491001.out BK484.out (by decide); intro e_; exact h_ (by rw [e_]; rfl)) _; (with_reducible repeat (first | refine blk_drewN ?_ _ | refine blk_drew ?_ | refine blk_alloc ?_ _)); exact BK484.out⟩, ⟨by (with_reducible repeat (first | refine blk_drewN ?_ _ | refine blk_drew ?_ | refine blk_alloc ?_ _)); refine blk_far ?_ (by have h_ := Kd.R_ne HO_491001.out BK485.out (by decide); intro e_; exact h_ (by rw [e_]; rfl)) _; (with_reducible repeat (first | refine blk_drewN ?_ _ | refine blk_drew ?_ | refine blk_alloc ?_ _)); exact BK485.out⟩, ⟨by (with_reducible repeat (first | refine blk_drewN ?_ _ | refine blk_drew ?_ | refine blk_alloc ?_ _)); refine blk_far ?_ (by have h_ := Kd.R_ne HO_491001.out BK490.out (by decide); intro e_; exact h_ (by rw [e_]; rfl)) _; (with_reducible repeat (first | refine blk_drewN ?_ _ | refine blk_drew ?_ | refine blk_alloc ?_ _)); exact BK490.out⟩, ⟨by repeat (first | (with_reducible first | exact HB.out | apply below_alloc | apply pw_below_drewN | apply below_drew1 | refine below_set ?_ GB33.out | refine below_set ?_ GE484.out | refine below_set ?_ GE485.out | refine below_set ?_ GE490.out) | exact HB.out)⟩⟩
            ·rw [if_neg c32] at H
             exact absurd H (by simp)
           ·rw [if_neg c31] at H
            exact absurd H (by simp)
          ·replace c30 := Bool.eq_false_iff.mpr c30
           subst c30
           have H1 : (spec_CloseRelation.l1 k2 x20_1 (t487.length : Int) x20_1 (x491001_1.length : Int) (wrap64 (x26_2 + 1)) a0_0 x491001_2) = some (r1, r2, r3) := by rw [if_neg (show ¬ (false = true) by decide)] at H; exact H
           clear H
           have H := H1
           clear H1
           have H' := Aside0.mk H
           clear H
           have hnb40 := NB490_484.out
           have hnc40 := NB484_490.out
           have hnb41 := NB490_485.out
           have hnc41 := NB485_490.out
           have hcz42_0 : wr.cell? ⟨gb490, 0, none⟩ = some (.int .i64 a0_0) := (blk_cell BK490.out 0).trans rfl
           have hcz42_1 : wr.cell? ⟨gb490, 1, none⟩ = some (u491001) := (blk_cell BK490.out 1).trans rfl
           have hfz42_0 := blk_frozen BK490.out 0
           have hfz42_1 := blk_frozen BK490.out 1
           obtain ⟨Ao43, co43, eo43⟩ := Kd.R_slice HO_491001.out
           subst eo43
           have p491 : 0 ≤ (x26_2 : Int) := of_decide_eq_true (by first | (with_reducible assumption) | assumption)
           have q491 : x26_2 < (x491001_2.length : Int) := of_decide_eq_true (by first | (with_reducible assumption) | assumption)
           obtain ⟨ad491, e491, hx491_0⟩ := Kd.at_int (Kd.R_reads' HO_491001.out).2.2 x26_2 p491 q491
           cases e491
           replace p491 := eq_true p491
           replace q491 := eq_true q491
           go_wp2_with (first | ((with_reducible refine gate_callee (f := 113) rfl ?_); refine goesL_ (some 35) rfl rfl Tryd.func113 (by kernel_rfl) rfl #[.int .i64 (rd x491001_2 x26_2), .int .i64 x20_1] rfl (by (try simp only [List.map_toArray, List.map_cons, List.map_nil]); first | done | rfl | (simp only [List.length_drop, List.length_take]; rfl)) ?_; (with_reducible refine (spec_orHas.calls (rd x491001_2 x26_2) x20_1 false _ A29.out).mono ?_); rintro e w' ⟨rfl, ⟨nd, rfl⟩⟩; refine ⟨_, rfl, ?_⟩))
           go_roundg k2
           case measure => have := HK1.out; have := HK2.out; omega
           case rel => exact ⟨(wrap64 (x26_2 + 1)), (x491001_2), (.slice (some ad491) x491001_2.length co43), (by first | rfl | (simp; done) | (simp [*]; done)), H', ⟨by have := HK1.out; have := HK2.out; omega⟩, ⟨by (with_reducible repeat (first | apply Kd.R_alloc | apply Kd.R_drewN | apply Kd.R_drew)); exact HO_491001.out⟩, ⟨by (with_reducible repeat (first | refine blk_drewN ?_ _ | refine blk_drew ?_ | refine blk_alloc ?_ _)); exact BK484.out⟩, ⟨by (with_reducible repeat (first | refine blk_drewN ?_ _ | refine blk_drew ?_ | refine blk_alloc ?_ _)); exact BK485.out⟩, ⟨by (with_reducible repeat (first | refine blk_drewN ?_ _ | refine blk_drew ?_ | refine blk_alloc ?_ _)); exact BK490.out⟩, ⟨by repeat (first | (with_reducible first | exact HB.out | apply below_alloc | apply pw_below_drewN | apply below_drew1 | refine below_set ?_ GE484.out | refine below_set ?_ GE485.out | refine below_set ?_ GE490.out) | exact HB.out)⟩⟩
         ·rw [if_neg c28] at H
          exact absurd H (by simp)
        ·rw [if_neg c27] at H
         exact absurd H (by simp)
       ·rw [if_neg c26] at H
        have c26b0 : decide (x26_2 < (x491001_1.length : Int)) = false := decide_eq_false c26
        clear c26
        have H' := Aside0.mk H
        clear H
        go_wp2
        go_roundg k2
        case measure => have := HK1.out; have := HK2.out; omega
        case rel => exact ⟨(wrap64 (x20_1 + 1)), (x491001_2), (u491001), (by first | rfl | (simp; done) | (simp [*]; done)), H', ⟨by have := HK1.out; have := HK2.out; omega⟩, ⟨by (with_reducible repeat (first | apply Kd.R_alloc | apply Kd.R_drewN | apply Kd.R_drew)); exact HO_491001.out⟩, ⟨by (with_reducible repeat (first | refine blk_drewN ?_ _ | refine blk_drew ?_ | refine blk_alloc ?_ _)); exact BK484.out⟩, ⟨by (with_reducible repeat (first | refine blk_drewN ?_ _ | refine blk_drew ?_ | refine blk_alloc ?_ _)); exact BK485.out⟩, ⟨by (with_reducible repeat (first | refine blk_drewN ?_ _ | refine blk_drew ?_ | refine blk_alloc ?_ _)); exact BK490.out⟩, ⟨by repeat (first | (with_reducible first | exact HB.out | apply below_alloc | apply pw_below_drewN | apply below_drew1 | refine below_set ?_ GE484.out | refine below_set ?_ GE485.out | refine below_set ?_ GE490.out) | exact HB.out)⟩⟩
    ·rw [if_neg c21] at H
     have c21b0 : decide (x20_1 < (t487.length : Int)) = false := decide_eq_false c21
     clear c21
     simp only [Option.some.injEq, Prod.mk.injEq] at H
     obtain ⟨rfl, rfl, rfl⟩ := H
     have hnb44 := NB490_484.out
     have hnc44 := NB484_490.out
     have hnb45 := NB490_485.out
     have hnc45 := NB485_490.out
     have hcz46_0 : wr.cell? ⟨gb490, 0, none⟩ = some (.int .i64 a0_0) := (blk_cell BK490.out 0).trans rfl
     have hcz46_1 : wr.cell? ⟨gb490, 1, none⟩ = some (u491001) := (blk_cell BK490.out 1).trans rfl
     have hfz46_0 := blk_frozen BK490.out 0
     have hfz46_1 := blk_frozen BK490.out 1
     have hnb47 := NB485_484.out
     have hnc47 := NB484_485.out
     have hcz48_0 : wr.cell? ⟨gb485, 0, none⟩ = some (.int .i64 0) := (blk_cell BK485.out 0).trans rfl
     have hcz48_1 : wr.cell? ⟨gb485, 1, none⟩ = some (.slice none 0 0) := (blk_cell BK485.out 1).trans rfl
     have hfz48_0 := blk_frozen BK485.out 0
     have hfz48_1 := blk_frozen BK485.out 1
     obtain ⟨Ao49, co49, eo49⟩ := Kd.R_slice HO_491001.out
     subst eo49
     go_wp2
     refine bodyPost_ret (results_ct rfl _ _ gb485 26 #[.int .i64 a0_0, .slice Ao49 x491001_1.length co49] (0, 0) _ rfl (by (with_reducible repeat (first | refine blk_drewN ?_ _ | refine blk_drew ?_ | refine blk_alloc ?_ _)); refine blk_put (cs := #[.int .i64 a0_0, .slice none 0 0]) ?_ 1 _ rfl; (with_reducible repeat (first | refine blk_drewN ?_ _ | refine blk_drew ?_ | refine blk_alloc ?_ _)); refine blk_put (cs := #[.int .i64 0, .slice none 0 0]) ?_ 0 _ rfl; (with_reducible repeat (first | refine blk_drewN ?_ _ | refine blk_drew ?_ | refine blk_alloc ?_ _)); exact BK485.out) Tryd.underlying26 rfl (by kernel_rfl)) rfl ?_
     exact ⟨_, by first | rfl | (simp [errW_none, errW_some] <;> rfl) | (simp [*, errW_none, errW_some] <;> rfl), by (with_reducible repeat (first | apply Kd.R_alloc | apply Kd.R_drewN | apply Kd.R_drew)); exact Kd.R_mono (Kd.R_far (p := ⟨gb485, 1, none⟩) (Kd.R_far (p := ⟨gb485, 0, none⟩) (Kd.R_types HO_491001.out BK485.out (by decide)) (fun _ hk => hk.2) (.int .i64 a0_0)) (fun _ hk => hk.2) (.slice Ao49 x491001_1.length co49)) (fun _ hk => trivial), by repeat (first | (with_reducible first | exact HB.out | apply below_alloc | apply pw_below_drewN | apply below_drew1 | refine below_set ?_ GE484.out | refine below_set ?_ GE485.out | refine below_set ?_ GE490.out) | exact HB.out)⟩
 ·replace c3 := Bool.eq_false_iff.mpr c3
  subst c3
  have H1 : (some (0, ([] : List Int), false)) = some (r1, r2, r3) := by rw [if_neg (show ¬ (false = true) by decide)] at H; exact H
  clear H
  have H := H1
  clear H1
  simp only [Option.some.injEq, Prod.mk.injEq] at H
  obtain ⟨rfl, rfl, rfl⟩ := H
  go_enter Tryd.func39, Tryd.ntmps39
  go_wp2_with (first | ((with_reducible refine gate_dst (N := 1) rfl ?_); refine box_event ?hg (N := 1) ?hd (cs := #[.int .i64 a0_0, .slice A0_1 l0_1.length c0_1]) (t := 26) ?hr ?_; (case hd => rfl); (case hg => rfl); (case hr => first | (go_simp; done) | (go_simp; rfl)); intro gb484 hg w50 hbox hb; have n0_ := Aside0.mk (below_step (by repeat (first | (with_reducible first | exact HB.out | apply below_alloc | apply pw_below_drewN | apply below_drew1) | exact HB.out)) hb); have n1_ := Aside0.mk (hbox); have n2_ := Aside0.mk ((by rw [hg]; exact (below_size (by repeat (first | (with_reducible first | exact HB.out | apply below_alloc | apply pw_below_drewN | apply below_drew1) | exact HB.out))) : w.heap.size ≤ gb484)); have n3_ := Aside0.mk ((by rw [hg]; exact (below_size (by repeat (first | (with_reducible first | exact HB.out | apply below_alloc | apply pw_below_drewN | apply below_drew1) | exact HB.out))) : w.heap.size ≤ gb484)); clear HB; have HB := n0_; have BK484 := n1_; have GW484 := n2_; have GE484 := n3_; clear n0_ n1_ n2_ n3_; clear hb hbox hg) | ((with_reducible refine gate_dst (N := 2) rfl ?_); refine box_event ?hg (N := 2) ?hd (cs := #[.int .i64 0, .slice none 0 0]) (t := 26) ?hr ?_; (case hd => rfl); (case hg => rfl); (case hr => first | (go_simp; done) | (go_simp; rfl)); intro gb485 hg w51 hbox hb; have n0_ := Aside0.mk (blk_below (g := gb484) (o := .cells #[.int .i64 a0_0, .slice A0_1 l0_1.length c0_1] 26 (0, 0)) (by (with_reducible repeat (first | refine blk_drewN ?_ _ | refine blk_drew ?_ | refine blk_alloc ?_ _)); exact BK484.out) hb); have n1_ := Aside0.mk (below_step (by repeat (first | (with_reducible first | exact HB.out | apply below_alloc | apply pw_below_drewN | apply below_drew1 | refine below_set ?_ GE484.out) | exact HB.out)) hb); have n2_ := Aside0.mk (hbox); have n3_ := Aside0.mk ((by rw [hg]; exact (below_size (by repeat (first | (with_reducible first | exact HB.out | apply below_alloc | apply pw_below_drewN | apply below_drew1 | refine below_set ?_ GE484.out) | exact HB.out))) : w.heap.size ≤ gb485)); have n4_ := Aside0.mk ((by rw [hg]; exact (below_size (by repeat (first | (with_reducible first | exact HB.out | apply below_alloc | apply pw_below_drewN | apply below_drew1 | refine below_set ?_ GE484.out) | exact HB.out))) : w.heap.size ≤ gb485)); have n5_ := Aside0.mk ((by rw [hg]; exact Nat.ne_of_lt (blk_lt (g := gb484) (o := .cells #[.int .i64 a0_0, .slice A0_1 l0_1.length c0_1] 26 (0, 0)) (by (with_reducible repeat (first | refine blk_drewN ?_ _ | refine blk_drew ?_ | refine blk_alloc ?_ _)); exact BK484.out)) : gb484 ≠ gb485)); have n6_ := Aside0.mk ((by rw [hg]; exact Nat.ne_of_gt (blk_lt (g := gb484) (o := .cells #[.int .i64 a0_0, .slice A0_1 l0_1.length c0_1] 26 (0, 0)) (by (with_reducible repeat (first | refine blk_drewN ?_ _ | refine blk_drew ?_ | refine blk_alloc ?_ _)); exact BK484.out)) : gb485 ≠ gb484)); clear BK484; clear HB; have BK484 := n0_; have HB := n1_; have BK485 := n2_; have GW485 := n3_; have GE485 := n4_; have NB484_485 := n5_; have NB485_484 := n6_; clear n0_ n1_ n2_ n3_ n4_ n5_ n6_; clear hb hbox hg; have hnb52 := NB484_485.out; have hnc52 := NB485_484.out; have hcz53_0 : w51.cell? ⟨gb484, 0, none⟩ = some (.int .i64 a0_0) := (blk_cell BK484.out 0).trans rfl; have hcz53_1 : w51.cell? ⟨gb484, 1, none⟩ = some (.slice A0_1 l0_1.length c0_1) := (blk_cell BK484.out 1).trans rfl; have hfz53_0 := blk_frozen BK484.out 0; have hfz53_1 := blk_frozen BK484.out 1) | ((with_reducible refine gate_callee (f := 104) rfl ?_); refine goesL_ (some 8) rfl rfl Tryd.func104 (by kernel_rfl) rfl #[.agg #[.int .i64 a0_0, .slice A0_1 l0_1.length c0_1]] rfl (by (try simp only [List.map_toArray, List.map_cons, List.map_nil]); first | done | rfl | (simp only [List.length_drop, List.length_take]; rfl)) ?_; (with_reducible refine (spec_orRelation.calls k a0_0 _ _ l0_1 false _ ?side1 ?side2 A2.out).mono ?_); (case side1 => repeat (first | exact (Kd.C_below HR0_1.out HB.out) | (with_reducible refine Kd.C_alloc ?_ _) | (with_reducible refine Kd.C_drewN ?_ _) | (with_reducible refine Kd.C_drew ?_))); (case side2 => exact HC0_1.out); rintro e w54 ⟨rfl, hb⟩; refine ⟨_, rfl, ?_⟩; have n0_ := Aside0.mk (blk_below (g := gb484) (o := .cells #[.int .i64 a0_0, .slice A0_1 l0_1.length c0_1] 26 (0, 0)) (by (with_reducible repeat (first | refine blk_drewN ?_ _ | refine blk_drew ?_ | refine blk_alloc ?_ _)); exact BK484.out) hb); have n1_ := Aside0.mk (blk_below (g := gb485) (o := .cells #[.int .i64 0, .slice none 0 0] 26 (0, 0)) (by (with_reducible repeat (first | refine blk_drewN ?_ _ | refine blk_drew ?_ | refine blk_alloc ?_ _)); exact BK485.out) hb); have n2_ := Aside0.mk (below_step (by repeat (first | (with_reducible first | exact HB.out | apply below_alloc | apply pw_below_drewN | apply below_drew1 | refine below_set ?_ GE484.out | refine below_set ?_ GE485.out) | exact HB.out)) hb); clear BK484; clear BK485; clear HB; have BK484 := n0_; have BK485 := n1_; have HB := n2_; clear n0_ n1_ n2_; (try clear hb); (try clear hb2); (try clear hk); (try clear hi); have hcz55_0 : w54.cell? ⟨gb485, 0, none⟩ = some (.int .i64 0) := (blk_cell BK485.out 0).trans rfl; have hcz55_1 : w54.cell? ⟨gb485, 1, none⟩ = some (.slice none 0 0) := (blk_cell BK485.out 1).trans rfl; have hfz55_0 := blk_frozen BK485.out 0; have hfz55_1 := blk_frozen BK485.out 1))
  refine bodyPost_ret (results_ct rfl _ _ gb485 26 #[.int .i64 0, .slice none 0 0] (0, 0) _ rfl (by (with_reducible repeat (first | refine blk_drewN ?_ _ | refine blk_drew ?_ | refine blk_alloc ?_ _)); refine blk_put (cs := #[.int .i64 0, .slice none 0 0]) ?_ 1 _ rfl; (with_reducible repeat (first | refine blk_drewN ?_ _ | refine blk_drew ?_ | refine blk_alloc ?_ _)); refine blk_put (cs := #[.int .i64 0, .slice none 0 0]) ?_ 0 _ rfl; (with_reducible repeat (first | refine blk_drewN ?_ _ | refine blk_drew ?_ | refine blk_alloc ?_ _)); exact BK485.out) Tryd.underlying26 rfl (by kernel_rfl)) rfl ?_
  exact ⟨_, by first | rfl | (simp [errW_none, errW_some] <;> rfl) | (simp [*, errW_none, errW_some] <;> rfl), by first | exact Kd.R_nil _ _ _ _ _ | exact Kd.N_nil _ _ _ _ _ | exact Kd.V_nil _ _ _ _ _ | exact Kd.Q_nil _ _ _ _ _ | exact Kd.S_nil _ _ _ _ _, by repeat (first | (with_reducible first | exact HB.out | apply below_alloc | apply pw_below_drewN | apply below_drew1 | refine below_set ?_ GE484.out | refine below_set ?_ GE485.out) | exact HB.out)⟩
end Go.Proofs.YtjdkcafpgebjfaaDoor.P
