/- A part of the proof that the law FnExtensionsAccepted holds at every input. Written by wip/pack.py: the kit's printed words that are used, the functions' walks as wip/gen.py prints them, and hand proofs. -/
import Derived.Test.YtjdkcafpgebjfaaDoorKFnExtensionsAccepted4
namespace Go.Proofs.YtjdkcafpgebjfaaDoor.P
open Bool renaming true → T, false → F
open List renaming setIfInBounds_toArray → L_, set_cons_zero → M_, set_cons_succ → N_
open Go.RowKit Go.Proofs.YtjdkcafpgebjfaaDoorW.PrintWords Go.Proofs.YtjdkcafpgebjfaaDoorW.PrintLast Go.Proofs.YtjdkcafpgebjfaaDoorW.PrintMore
attribute [local go_sem] max2_int min2_int max_two min_two max_three min_three max_four min_four
set_option linter.unusedVariables false
set_option linter.unusedSimpArgs false
attribute [local go_sem] fldOrder_0 fldOrder_1
def spec_DrawIsExtension.j0 : Nat → Bool → List Int → Int → Int → Int → List Int → Option (Int × List Int × List Int)
 | 0, _, _, _, _, _, _ => none
 | k + 1, x16, x1031000, x1031001, x1031002, x1038000, x1038001 => if x16 = true then ((spec_orFirst.f k x1038000 x1038001).bind fun t1042 => (some (x1038000, x1038001, t1042))) else ((spec_l1Most.f 0 x1038000).bind fun t1045 => ((spec_l1Cur_names.f k x1031000 x1031001 x1031002 t1045).bind fun bt1046 => (some (x1038000, x1038001, bt1046.1))))
def spec_DrawIsExtension.f (k : Nat) (l0 : List Int) : Option (Int × List Int × List Int) := (spec_l1Cur_anyOrder.f k l0 0 0 6).bind fun bt1031 => ((spec_orGood.f k bt1031.1 bt1031.2.1).bind fun t1038 => (if t1038 = true then ((spec_l1Cur_one.f l0 bt1031.2.2.1 bt1031.2.2.2 2).bind fun bt1039 => (spec_DrawIsExtension.j0 k bt1039.1 l0 bt1039.2.1 bt1039.2.2 bt1031.1 bt1031.2.1)) else (spec_DrawIsExtension.j0 k false l0 bt1031.2.2.1 bt1031.2.2.2 bt1031.1 bt1031.2.1)))
def spec_DrawIsExtension.T5 : Bool × List (List Nat × List Nat) := (true, [([], []), ([], []), ([], []), ([2], [2]), ([3], [3]), ([1, 4, 4], [1, 4]), ([0, 5, 0], [0]), ([5, 6, 0, 1, 2, 3, 4, 5, 6], [5])])
def spec_DrawIsExtension.B5 : List Nat := [0, 0, 0, 4, 12, 30, 63, 127]
theorem spec_DrawIsExtension.tab5 : rtab .any (opsOf Tryd.f55 5) = spec_DrawIsExtension.T5 := by kernel_rfl
theorem spec_DrawIsExtension.bits5 : waitsOk spec_DrawIsExtension.T5.2 spec_DrawIsExtension.B5 = true := by kernel_rfl
set_option maxHeartbeats 8000000 in
set_option maxRecDepth 100000 in
theorem spec_DrawIsExtension.calls (k : Nat) (A0 : Option Addr) (c0 : Nat) (l0 : List Int) (r1 : Int) (r2 : List Int) (r3 : List Int) (w : World) (hr0 : Kd.C (Kd.int .u8) w A0 l0.length l0) (hc0 : l0.length ≤ c0) (h : spec_DrawIsExtension.f k l0 = some (r1, r2, r3)) :
 Calls Tryd.prog 55 #[.slice A0 l0.length c0] w fun e w' => ∃ v1_ v2_ : Value, e = .returned (.tuple #[.agg #[.int .i64 r1, v1_], v2_]) ∧ Kd.R (Kd.int .i64) 3 w' w.heap.size (fun k_ => some k_ ≠ (v2_ : Value).ownBlock) v1_ r2 ∧ Kd.R (Kd.int .i64) 3 w' w.heap.size (fun k_ => some k_ ≠ (v1_ : Value).ownBlock) v2_ r3 ∧ Below w.heap.size w w' := by
 have hu26 := Tryd.underlying26
 have hu72 := Tryd.underlying72
 have HR0 := Aside0.mk hr0
 have HC0 := Aside0.mk hc0
 clear hr0 hc0
 have HB := Aside0.mk (Below.refl w.heap.size w)
 have H : ((spec_l1Cur_anyOrder.f k l0 0 0 6).bind fun bt1031 => ((spec_orGood.f k bt1031.1 bt1031.2.1).bind fun t1038 => (if t1038 = true then ((spec_l1Cur_one.f l0 bt1031.2.2.1 bt1031.2.2.2 2).bind fun bt1039 => (spec_DrawIsExtension.j0 k bt1039.1 l0 bt1039.2.1 bt1039.2.2 bt1031.1 bt1031.2.1)) else (spec_DrawIsExtension.j0 k false l0 bt1031.2.2.1 bt1031.2.2.2 bt1031.1 bt1031.2.1)))) = some (r1, r2, r3) := h
 clear h
 replace H := Option.bind_eq_some_iff.mp H
 obtain ⟨⟨t1031, t1032, t1035, t1036⟩, A20, H⟩ := H
 replace H : ((spec_orGood.f k t1031 t1032).bind fun t1038 => (if t1038 = true then ((spec_l1Cur_one.f l0 t1035 t1036 2).bind fun bt1039 => (spec_DrawIsExtension.j0 k bt1039.1 l0 bt1039.2.1 bt1039.2.2 t1031 t1032)) else (spec_DrawIsExtension.j0 k false l0 t1035 t1036 t1031 t1032))) = some (r1, r2, r3) := H
 have A2 := Aside0.mk A20
 clear A20
 have HC3 := Aside0.mk H
 clear H
 go_enter Tryd.func55, Tryd.ntmps55
 go_upto_region 3 with (first | ((with_reducible refine gate_dst (N := 2) rfl ?_); refine box_event ?hg (N := 2) ?hd (cs := #[.int .i64 0, .slice none 0 0]) (t := 26) ?hr ?_; (case hd => rfl); (case hg => rfl); (case hr => first | (go_simp; done) | (go_simp; rfl)); intro gb1029 hg w4 hbox hb; have n0_ := Aside0.mk (below_step (by repeat (first | (with_reducible first | exact HB.out | apply below_alloc | apply pw_below_drewN | apply below_drew1) | exact HB.out)) hb); have n1_ := Aside0.mk (hbox); have n2_ := Aside0.mk ((by rw [hg]; exact (below_size (by repeat (first | (with_reducible first | exact HB.out | apply below_alloc | apply pw_below_drewN | apply below_drew1) | exact HB.out))) : w.heap.size ≤ gb1029)); have n3_ := Aside0.mk ((by rw [hg]; exact (below_size (by repeat (first | (with_reducible first | exact HB.out | apply below_alloc | apply pw_below_drewN | apply below_drew1) | exact HB.out))) : w.heap.size ≤ gb1029)); clear HB; have HB := n0_; have BK1029 := n1_; have GW1029 := n2_; have GE1029 := n3_; clear n0_ n1_ n2_ n3_; clear hb hbox hg) | ((with_reducible refine gate_dst (N := 8) rfl ?_); refine box_event ?hg (N := 8) ?hd (cs := #[.slice A0 l0.length c0, .int .i64 0, .int .u64 0]) (t := 72) ?hr ?_; (case hd => rfl); (case hg => rfl); (case hr => first | (go_simp; done) | (go_simp; rfl)); intro gb1030 hg w5 hbox hb; have n0_ := Aside0.mk (blk_below (g := gb1029) (o := .cells #[.int .i64 0, .slice none 0 0] 26 (0, 0)) (by (with_reducible repeat (first | refine blk_drewN ?_ _ | refine blk_drew ?_ | refine blk_alloc ?_ _)); exact BK1029.out) hb); have n1_ := Aside0.mk (below_step (by repeat (first | (with_reducible first | exact HB.out | apply below_alloc | apply pw_below_drewN | apply below_drew1 | refine below_set ?_ GE1029.out) | exact HB.out)) hb); have n2_ := Aside0.mk ((show IsS72 w _ gb1030 l0 0 0 from ⟨_, _, hbox, (by rw [hg]; exact (below_size (by repeat (first | (with_reducible first | exact HB.out | apply below_alloc | apply pw_below_drewN | apply below_drew1 | refine below_set ?_ GE1029.out) | exact HB.out))) : w.heap.size ≤ gb1030), HR0.out⟩)); have n3_ := Aside0.mk ((by rw [hg]; exact (below_size (by repeat (first | (with_reducible first | exact HB.out | apply below_alloc | apply pw_below_drewN | apply below_drew1 | refine below_set ?_ GE1029.out) | exact HB.out))) : w.heap.size ≤ gb1030)); have n4_ := Aside0.mk ((by rw [hg]; exact (below_size (by repeat (first | (with_reducible first | exact HB.out | apply below_alloc | apply pw_below_drewN | apply below_drew1 | refine below_set ?_ GE1029.out) | exact HB.out))) : w.heap.size ≤ gb1030)); have n5_ := Aside0.mk ((by rw [hg]; exact Nat.ne_of_lt (blk_lt (g := gb1029) (o := .cells #[.int .i64 0, .slice none 0 0] 26 (0, 0)) (by (with_reducible repeat (first | refine blk_drewN ?_ _ | refine blk_drew ?_ | refine blk_alloc ?_ _)); exact BK1029.out)) : gb1029 ≠ gb1030)); have n6_ := Aside0.mk ((by rw [hg]; exact Nat.ne_of_gt (blk_lt (g := gb1029) (o := .cells #[.int .i64 0, .slice none 0 0] 26 (0, 0)) (by (with_reducible repeat (first | refine blk_drewN ?_ _ | refine blk_drew ?_ | refine blk_alloc ?_ _)); exact BK1029.out)) : gb1030 ≠ gb1029)); clear BK1029; clear HB; have BK1029 := n0_; have HB := n1_; have HI1030 := n2_; have GW1030 := n3_; have GE1030 := n4_; have NB1029_1030 := n5_; have NB1030_1029 := n6_; clear n0_ n1_ n2_ n3_ n4_ n5_ n6_; clear hb hbox hg) | ((with_reducible refine gate_callee (f := 101) rfl ?_); refine goesL_ (some 10) rfl rfl Tryd.func101 (by kernel_rfl) rfl #[.pointer (some ⟨gb1030, 0, none⟩), .int .i64 6] rfl (by (try simp only [List.map_toArray, List.map_cons, List.map_nil]); first | done | rfl | (simp only [List.length_drop, List.length_take]; rfl)) ?_; (with_reducible refine (spec_l1Cur_anyOrder.calls k gb1030 l0 0 0 6 t1031 t1032 t1035 t1036 w _ ?side1 ?side2 A2.out).mono ?_); (case side1 => repeat (first | (with_reducible first | exact HI1030.out | apply IsS72.alloc | apply IsS72.drewN | apply IsS72.drew | apply IsS72.set_1 | apply IsS72.set_2 | refine IsS72.far ?_ NB1030_1029.out _) | exact HI1030.out)); (case side2 => repeat (first | (with_reducible first | exact HB.out | apply below_alloc | apply pw_below_drewN | apply below_drew1 | refine below_set ?_ (IsS72.ge HI1030.out) | refine below_set ?_ GE1029.out) | exact HB.out)); rintro e w6 ⟨v1033, rfl, ho0, hi, hb, hk⟩; refine ⟨_, rfl, ?_⟩; have n0_ := Aside0.mk (KeepBut.blk hk (g' := gb1029) (o := .cells #[.int .i64 0, .slice none 0 0] 26 (0, 0)) (by (with_reducible repeat (first | refine blk_drewN ?_ _ | refine blk_drew ?_ | refine blk_alloc ?_ _)); exact BK1029.out) NB1029_1030.out (by simp)); have n1_ := Aside0.mk (Kd.R_lower ho0 (below_size (by repeat (first | (with_reducible first | exact HB.out | apply below_alloc | apply pw_below_drewN | apply below_drew1 | refine below_set ?_ (IsS72.ge HI1030.out) | refine below_set ?_ GE1029.out) | exact HB.out)))); have n2_ := Aside0.mk (hb); have n3_ := Aside0.mk (hi); clear BK1029; clear HB; clear HI1030; have BK1029 := n0_; have HO1034 := n1_; have HB := n2_; have HI1030 := n3_; clear n0_ n1_ n2_ n3_; (try clear hb); (try clear hb2); (try clear hk); (try clear hi); (try clear ho0)) | ((with_reducible refine gate_dst (N := 5) rfl ?_); refine box_event ?hg (N := 5) ?hd (cs := #[.int .i64 0, .slice none 0 0]) (t := 26) ?hr ?_; (case hd => rfl); (case hg => rfl); (case hr => first | (go_simp; done) | (go_simp; rfl)); intro gb1037 hg w7 hbox hb; have n0_ := Aside0.mk (Kd.R_below (by (with_reducible repeat (first | apply Kd.R_alloc | apply Kd.R_drewN | apply Kd.R_drew)); exact HO1034.out) hb); have n1_ := Aside0.mk (blk_below (g := gb1029) (o := .cells #[.int .i64 0, .slice none 0 0] 26 (0, 0)) (by (with_reducible repeat (first | refine blk_drewN ?_ _ | refine blk_drew ?_ | refine blk_alloc ?_ _)); exact BK1029.out) hb); have n2_ := Aside0.mk (IsS72.below (by repeat (first | (with_reducible first | exact HI1030.out | apply IsS72.alloc | apply IsS72.drewN | apply IsS72.drew | apply IsS72.set_1 | apply IsS72.set_2 | refine IsS72.far ?_ NB1030_1029.out _) | exact HI1030.out)) hb); have n3_ := Aside0.mk (below_step (by repeat (first | (with_reducible first | exact HB.out | apply below_alloc | apply pw_below_drewN | apply below_drew1 | refine below_set ?_ (IsS72.ge HI1030.out) | refine below_set ?_ GE1029.out) | exact HB.out)) hb); have n4_ := Aside0.mk (hbox); have n5_ := Aside0.mk ((by rw [hg]; exact (below_size (by repeat (first | (with_reducible first | exact HB.out | apply below_alloc | apply pw_below_drewN | apply below_drew1 | refine below_set ?_ (IsS72.ge HI1030.out) | refine below_set ?_ GE1029.out) | exact HB.out))) : w.heap.size ≤ gb1037)); have n6_ := Aside0.mk ((by rw [hg]; exact (below_size (by repeat (first | (with_reducible first | exact HB.out | apply below_alloc | apply pw_below_drewN | apply below_drew1 | refine below_set ?_ (IsS72.ge HI1030.out) | refine below_set ?_ GE1029.out) | exact HB.out))) : w.heap.size ≤ gb1037)); have n7_ := Aside0.mk ((by rw [hg]; exact Nat.ne_of_lt (blk_lt (g := gb1029) (o := .cells #[.int .i64 0, .slice none 0 0] 26 (0, 0)) (by (with_reducible repeat (first | refine blk_drewN ?_ _ | refine blk_drew ?_ | refine blk_alloc ?_ _)); exact BK1029.out)) : gb1029 ≠ gb1037)); have n8_ := Aside0.mk ((by rw [hg]; exact Nat.ne_of_gt (blk_lt (g := gb1029) (o := .cells #[.int .i64 0, .slice none 0 0] 26 (0, 0)) (by (with_reducible repeat (first | refine blk_drewN ?_ _ | refine blk_drew ?_ | refine blk_alloc ?_ _)); exact BK1029.out)) : gb1037 ≠ gb1029)); have n9_ := Aside0.mk ((by rw [hg]; exact Nat.ne_of_lt (IsS72.lt (show IsS72 w _ gb1030 l0 t1035 t1036 from by repeat (first | (with_reducible first | exact HI1030.out | apply IsS72.alloc | apply IsS72.drewN | apply IsS72.drew | apply IsS72.set_1 | apply IsS72.set_2 | refine IsS72.far ?_ NB1030_1029.out _) | exact HI1030.out))) : gb1030 ≠ gb1037)); have n10_ := Aside0.mk ((by rw [hg]; exact Nat.ne_of_gt (IsS72.lt (show IsS72 w _ gb1030 l0 t1035 t1036 from by repeat (first | (with_reducible first | exact HI1030.out | apply IsS72.alloc | apply IsS72.drewN | apply IsS72.drew | apply IsS72.set_1 | apply IsS72.set_2 | refine IsS72.far ?_ NB1030_1029.out _) | exact HI1030.out))) : gb1037 ≠ gb1030)); clear HO1034; clear BK1029; clear HI1030; clear HB; have HO1034 := n0_; have BK1029 := n1_; have HI1030 := n2_; have HB := n3_; have BK1037 := n4_; have GW1037 := n5_; have GE1037 := n6_; have NB1029_1037 := n7_; have NB1037_1029 := n8_; have NB1030_1037 := n9_; have NB1037_1030 := n10_; clear n0_ n1_ n2_ n3_ n4_ n5_ n6_ n7_ n8_ n9_ n10_; clear hb hbox hg; have hnb8 := NB1037_1029.out; have hnc8 := NB1029_1037.out; have hnb9 := NB1037_1030.out; have hnc9 := NB1030_1037.out; have hcz10_0 : w7.cell? ⟨gb1037, 0, none⟩ = some (.int .i64 0) := (blk_cell BK1037.out 0).trans rfl; have hcz10_1 : w7.cell? ⟨gb1037, 1, none⟩ = some (.slice none 0 0) := (blk_cell BK1037.out 1).trans rfl; have hfz10_0 := blk_frozen BK1037.out 0; have hfz10_1 := blk_frozen BK1037.out 1; obtain ⟨Ao11, co11, eo11⟩ := Kd.R_slice HO1034.out; subst eo11))
 (try simp only [Act.put, L_,M_,N_])
 go_cut [16] (fun v16 wc => ∃ (kq : Nat) (x16_2 : Bool) (x1031001_2 : Int) (x1031002_2 : Int), v16 = .bool x16_2 ∧ Aside0 (spec_DrawIsExtension.j0 kq x16_2 l0 x1031001_2 x1031002_2 t1031 t1032 = some (r1, r2, r3)) ∧ Aside0 (kq ≤ k) ∧ Aside0 (Kd.R (Kd.int .i64) 3 wc w.heap.size (fun _ => True) (.slice Ao11 t1032.length co11) t1032) ∧ Aside0 (wc.heap[gb1029]? = some (.cells #[.int .i64 0, (.slice none 0 0)] 26 (0, 0))) ∧ Aside0 (wc.heap[gb1037]? = some (.cells #[.int .i64 t1031, (.slice Ao11 t1032.length co11)] 26 (0, 0))) ∧ Aside0 (IsS72 w wc gb1030 l0 x1031001_2 x1031002_2) ∧ Aside0 (Below w.heap.size w wc))
 case first =>
  have H := HC3.out
  clear HC3
  replace H := Option.bind_eq_some_iff.mp H
  obtain ⟨t1038, A120, H⟩ := H
  replace H : (if t1038 = true then ((spec_l1Cur_one.f l0 t1035 t1036 2).bind fun bt1039 => (spec_DrawIsExtension.j0 k bt1039.1 l0 bt1039.2.1 bt1039.2.2 t1031 t1032)) else (spec_DrawIsExtension.j0 k false l0 t1035 t1036 t1031 t1032)) = some (r1, r2, r3) := H
  have A12 := Aside0.mk A120
  clear A120
  by_cases c13 : t1038 = true
  ·subst c13
   have H1 : ((spec_l1Cur_one.f l0 t1035 t1036 2).bind fun bt1039 => (spec_DrawIsExtension.j0 k bt1039.1 l0 bt1039.2.1 bt1039.2.2 t1031 t1032)) = some (r1, r2, r3) := by rw [if_pos rfl] at H; exact H
   clear H
   have H := H1
   clear H1
   replace H := Option.bind_eq_some_iff.mp H
   obtain ⟨⟨t1039, t1040, t1041⟩, A140, H⟩ := H
   replace H : (spec_DrawIsExtension.j0 k t1039 l0 t1040 t1041 t1031 t1032) = some (r1, r2, r3) := H
   have A14 := Aside0.mk A140
   clear A140
   have H' := Aside0.mk H
   clear H
   have hnb15 := NB1037_1029.out
   have hnc15 := NB1029_1037.out
   have hnb16 := NB1037_1030.out
   have hnc16 := NB1030_1037.out
   have hcz17_0 : w7.cell? ⟨gb1037, 0, none⟩ = some (.int .i64 0) := (blk_cell BK1037.out 0).trans rfl
   have hcz17_1 : w7.cell? ⟨gb1037, 1, none⟩ = some (.slice none 0 0) := (blk_cell BK1037.out 1).trans rfl
   have hfz17_0 := blk_frozen BK1037.out 0
   have hfz17_1 := blk_frozen BK1037.out 1
   go_wp2_with (first | ((with_reducible refine gate_callee (f := 83) rfl ?_); refine goesL_ (some 12) rfl rfl Tryd.func83 (by kernel_rfl) rfl #[.agg #[.int .i64 t1031, .slice Ao11 t1032.length co11]] rfl (by (try simp only [List.map_toArray, List.map_cons, List.map_nil]); first | done | rfl | (simp only [List.length_drop, List.length_take]; rfl)) ?_; (with_reducible refine (spec_orGood.calls k t1031 _ _ t1032 true _ ?side1 ?side2 A12.out).mono ?_); (case side1 => refine (Kd.R_reads' (e := 3) (base := w.heap.size) (ok := fun k_ => True) (n := t1032.length) (c := co11) ?_).2.2; exact (by (with_reducible repeat (first | apply Kd.R_alloc | apply Kd.R_drewN | apply Kd.R_drew)); exact (Kd.R_mono (Kd.R_far (p := ⟨gb1037, 1, none⟩) (Kd.R_far (p := ⟨gb1037, 0, none⟩) (Kd.R_types HO1034.out BK1037.out (by decide)) (fun _ hk => hk.2) (.int .i64 t1031)) (fun _ hk => hk.2) (.slice Ao11 t1032.length co11)) (fun _ h_ => h_.1)))); (case side2 => exact (Kd.R_reads' HO1034.out).2.1); rintro e w18 ⟨rfl, hb⟩; refine ⟨_, rfl, ?_⟩; have n0_ := Aside0.mk (Kd.R_below (by (with_reducible repeat (first | apply Kd.R_alloc | apply Kd.R_drewN | apply Kd.R_drew)); exact (Kd.R_mono (Kd.R_far (p := ⟨gb1037, 1, none⟩) (Kd.R_far (p := ⟨gb1037, 0, none⟩) (Kd.R_types HO1034.out BK1037.out (by decide)) (fun _ hk => hk.2) (.int .i64 t1031)) (fun _ hk => hk.2) (.slice Ao11 t1032.length co11)) (fun _ h_ => h_.1))) hb); have n1_ := Aside0.mk (blk_below (g := gb1029) (o := .cells #[.int .i64 0, .slice none 0 0] 26 (0, 0)) (by (with_reducible repeat (first | refine blk_drewN ?_ _ | refine blk_drew ?_ | refine blk_alloc ?_ _)); refine blk_far ?_ NB1029_1037.out _; (with_reducible repeat (first | refine blk_drewN ?_ _ | refine blk_drew ?_ | refine blk_alloc ?_ _)); refine blk_far ?_ NB1029_1037.out _; (with_reducible repeat (first | refine blk_drewN ?_ _ | refine blk_drew ?_ | refine blk_alloc ?_ _)); exact BK1029.out) hb); have n2_ := Aside0.mk (IsS72.below (show IsS72 w ((w7.setCell ⟨gb1037, 0, none⟩ (.int .i64 t1031)).setCell ⟨gb1037, 1, none⟩ (.slice Ao11 t1032.length co11)) gb1030 l0 t1035 t1036 from by repeat (first | (with_reducible first | exact HI1030.out | apply IsS72.alloc | apply IsS72.drewN | apply IsS72.drew | apply IsS72.set_1 | apply IsS72.set_2 | refine IsS72.far ?_ NB1030_1029.out _ | refine IsS72.far ?_ NB1030_1037.out _) | exact HI1030.out)) hb); have n3_ := Aside0.mk (blk_below (g := gb1037) (o := .cells #[.int .i64 t1031, .slice Ao11 t1032.length co11] 26 (0, 0)) (by (with_reducible repeat (first | refine blk_drewN ?_ _ | refine blk_drew ?_ | refine blk_alloc ?_ _)); refine blk_put (cs := #[.int .i64 t1031, .slice none 0 0]) ?_ 1 _ rfl; (with_reducible repeat (first | refine blk_drewN ?_ _ | refine blk_drew ?_ | refine blk_alloc ?_ _)); refine blk_put (cs := #[.int .i64 0, .slice none 0 0]) ?_ 0 _ rfl; (with_reducible repeat (first | refine blk_drewN ?_ _ | refine blk_drew ?_ | refine blk_alloc ?_ _)); exact BK1037.out) hb); have n4_ := Aside0.mk (below_step (by repeat (first | (with_reducible first | exact HB.out | apply below_alloc | apply pw_below_drewN | apply below_drew1 | refine below_set ?_ (IsS72.ge HI1030.out) | refine below_set ?_ GE1029.out | refine below_set ?_ GE1037.out) | exact HB.out)) hb); clear HO1034; clear BK1029; clear HI1030; clear BK1037; clear HB; have HO1034 := n0_; have BK1029 := n1_; have HI1030 := n2_; have BK1037 := n3_; have HB := n4_; clear n0_ n1_ n2_ n3_ n4_; (try clear hb); (try clear hb2); (try clear hk); (try clear hi)) | (go_at_call 109; (with_reducible refine (spec_l1Cur_one.calls gb1030 l0 t1035 t1036 2 t1039 t1040 t1041 w _ ?side1 ?side2 A14.out).mono ?_); (case side1 => repeat (first | (with_reducible first | exact HI1030.out | apply IsS72.alloc | apply IsS72.drewN | apply IsS72.drew | apply IsS72.set_1 | apply IsS72.set_2 | refine IsS72.far ?_ NB1030_1029.out _ | refine IsS72.far ?_ NB1030_1037.out _) | exact HI1030.out)); (case side2 => repeat (first | (with_reducible first | exact HB.out | apply below_alloc | apply pw_below_drewN | apply below_drew1 | refine below_set ?_ (IsS72.ge HI1030.out) | refine below_set ?_ GE1029.out | refine below_set ?_ GE1037.out) | exact HB.out)); rintro e w19 ⟨rfl, hi, hb, hk⟩; have n0_ := Aside0.mk (KeepBut.blk hk (g' := gb1029) (o := .cells #[.int .i64 0, .slice none 0 0] 26 (0, 0)) (by (with_reducible repeat (first | refine blk_drewN ?_ _ | refine blk_drew ?_ | refine blk_alloc ?_ _)); exact BK1029.out) NB1029_1030.out (by simp)); have n1_ := Aside0.mk (Kd.R_mono (Kd.R_keep (IsS72.apart (show IsS72 w _ gb1030 l0 t1035 t1036 from by repeat (first | (with_reducible first | exact HI1030.out | apply IsS72.alloc | apply IsS72.drewN | apply IsS72.drew | apply IsS72.set_1 | apply IsS72.set_2 | refine IsS72.far ?_ NB1030_1029.out _ | refine IsS72.far ?_ NB1030_1037.out _) | exact HI1030.out)) (by (with_reducible repeat (first | apply Kd.R_alloc | apply Kd.R_drewN | apply Kd.R_drew)); exact HO1034.out) (by decide)) hk (fun _ h => h.2)) (fun _ h => h.1)); have n2_ := Aside0.mk (KeepBut.blk hk (g' := gb1037) (o := .cells #[.int .i64 t1031, .slice Ao11 t1032.length co11] 26 (0, 0)) (by (with_reducible repeat (first | refine blk_drewN ?_ _ | refine blk_drew ?_ | refine blk_alloc ?_ _)); exact BK1037.out) NB1037_1030.out (by simp)); have n3_ := Aside0.mk (hb); have n4_ := Aside0.mk (hi); clear BK1029; clear HO1034; clear BK1037; clear HB; clear HI1030; have BK1029 := n0_; have HO1034 := n1_; have BK1037 := n2_; have HB := n3_; have HI1030 := n4_; clear n0_ n1_ n2_ n3_ n4_; (try clear hb); (try clear hb2); (try clear hk); (try clear hi)))
   go_meet
   case rel => exact ⟨_, (t1039), (t1040), (t1041), (by first | rfl | (simp; done) | (simp [*]; done)), H', ⟨by first | omega | exact Nat.le_refl _⟩, ⟨by (with_reducible repeat (first | apply Kd.R_alloc | apply Kd.R_drewN | apply Kd.R_drew)); exact HO1034.out⟩, ⟨by (with_reducible repeat (first | refine blk_drewN ?_ _ | refine blk_drew ?_ | refine blk_alloc ?_ _)); exact BK1029.out⟩, ⟨by (with_reducible repeat (first | refine blk_drewN ?_ _ | refine blk_drew ?_ | refine blk_alloc ?_ _)); exact BK1037.out⟩, ⟨by repeat (first | (with_reducible first | exact HI1030.out | apply IsS72.alloc | apply IsS72.drewN | apply IsS72.drew | apply IsS72.set_1 | apply IsS72.set_2 | refine IsS72.far ?_ NB1030_1029.out _ | refine IsS72.far ?_ NB1030_1037.out _) | exact HI1030.out)⟩, ⟨by repeat (first | (with_reducible first | exact HB.out | apply below_alloc | apply pw_below_drewN | apply below_drew1 | refine below_set ?_ (IsS72.ge HI1030.out) | refine below_set ?_ GE1029.out | refine below_set ?_ GE1037.out) | exact HB.out)⟩⟩
  ·replace c13 := Bool.eq_false_iff.mpr c13
   subst c13
   have H1 : (spec_DrawIsExtension.j0 k false l0 t1035 t1036 t1031 t1032) = some (r1, r2, r3) := by rw [if_neg (show ¬ (false = true) by decide)] at H; exact H
   clear H
   have H := H1
   clear H1
   have H' := Aside0.mk H
   clear H
   have hnb20 := NB1037_1029.out
   have hnc20 := NB1029_1037.out
   have hnb21 := NB1037_1030.out
   have hnc21 := NB1030_1037.out
   have hcz22_0 : w7.cell? ⟨gb1037, 0, none⟩ = some (.int .i64 0) := (blk_cell BK1037.out 0).trans rfl
   have hcz22_1 : w7.cell? ⟨gb1037, 1, none⟩ = some (.slice none 0 0) := (blk_cell BK1037.out 1).trans rfl
   have hfz22_0 := blk_frozen BK1037.out 0
   have hfz22_1 := blk_frozen BK1037.out 1
   go_wp2_with (first | ((with_reducible refine gate_callee (f := 83) rfl ?_); refine goesL_ (some 12) rfl rfl Tryd.func83 (by kernel_rfl) rfl #[.agg #[.int .i64 t1031, .slice Ao11 t1032.length co11]] rfl (by (try simp only [List.map_toArray, List.map_cons, List.map_nil]); first | done | rfl | (simp only [List.length_drop, List.length_take]; rfl)) ?_; (with_reducible refine (spec_orGood.calls k t1031 _ _ t1032 false _ ?side1 ?side2 A12.out).mono ?_); (case side1 => refine (Kd.R_reads' (e := 3) (base := w.heap.size) (ok := fun k_ => True) (n := t1032.length) (c := co11) ?_).2.2; exact (by (with_reducible repeat (first | apply Kd.R_alloc | apply Kd.R_drewN | apply Kd.R_drew)); exact (Kd.R_mono (Kd.R_far (p := ⟨gb1037, 1, none⟩) (Kd.R_far (p := ⟨gb1037, 0, none⟩) (Kd.R_types HO1034.out BK1037.out (by decide)) (fun _ hk => hk.2) (.int .i64 t1031)) (fun _ hk => hk.2) (.slice Ao11 t1032.length co11)) (fun _ h_ => h_.1)))); (case side2 => exact (Kd.R_reads' HO1034.out).2.1); rintro e w23 ⟨rfl, hb⟩; refine ⟨_, rfl, ?_⟩; have n0_ := Aside0.mk (Kd.R_below (by (with_reducible repeat (first | apply Kd.R_alloc | apply Kd.R_drewN | apply Kd.R_drew)); exact (Kd.R_mono (Kd.R_far (p := ⟨gb1037, 1, none⟩) (Kd.R_far (p := ⟨gb1037, 0, none⟩) (Kd.R_types HO1034.out BK1037.out (by decide)) (fun _ hk => hk.2) (.int .i64 t1031)) (fun _ hk => hk.2) (.slice Ao11 t1032.length co11)) (fun _ h_ => h_.1))) hb); have n1_ := Aside0.mk (blk_below (g := gb1029) (o := .cells #[.int .i64 0, .slice none 0 0] 26 (0, 0)) (by (with_reducible repeat (first | refine blk_drewN ?_ _ | refine blk_drew ?_ | refine blk_alloc ?_ _)); refine blk_far ?_ NB1029_1037.out _; (with_reducible repeat (first | refine blk_drewN ?_ _ | refine blk_drew ?_ | refine blk_alloc ?_ _)); refine blk_far ?_ NB1029_1037.out _; (with_reducible repeat (first | refine blk_drewN ?_ _ | refine blk_drew ?_ | refine blk_alloc ?_ _)); exact BK1029.out) hb); have n2_ := Aside0.mk (IsS72.below (show IsS72 w ((w7.setCell ⟨gb1037, 0, none⟩ (.int .i64 t1031)).setCell ⟨gb1037, 1, none⟩ (.slice Ao11 t1032.length co11)) gb1030 l0 t1035 t1036 from by repeat (first | (with_reducible first | exact HI1030.out | apply IsS72.alloc | apply IsS72.drewN | apply IsS72.drew | apply IsS72.set_1 | apply IsS72.set_2 | refine IsS72.far ?_ NB1030_1029.out _ | refine IsS72.far ?_ NB1030_1037.out _) | exact HI1030.out)) hb); have n3_ := Aside0.mk (blk_below (g := gb1037) (o := .cells #[.int .i64 t1031, .slice Ao11 t1032.length co11] 26 (0, 0)) (by (with_reducible repeat (first | refine blk_drewN ?_ _ | refine blk_drew ?_ | refine blk_alloc ?_ _)); refine blk_put (cs := #[.int .i64 t1031, .slice none 0 0]) ?_ 1 _ rfl; (with_reducible repeat (first | refine blk_drewN ?_ _ | refine blk_drew ?_ | refine blk_alloc ?_ _)); refine blk_put (cs := #[.int .i64 0, .slice none 0 0]) ?_ 0 _ rfl; (with_reducible repeat (first | refine blk_drewN ?_ _ | refine blk_drew ?_ | refine blk_alloc ?_ _)); exact BK1037.out) hb); have n4_ := Aside0.mk (below_step (by repeat (first | (with_reducible first | exact HB.out | apply below_alloc | apply pw_below_drewN | apply below_drew1 | refine below_set ?_ (IsS72.ge HI1030.out) | refine below_set ?_ GE1029.out | refine below_set ?_ GE1037.out) | exact HB.out)) hb); clear HO1034; clear BK1029; clear HI1030; clear BK1037; clear HB; have HO1034 := n0_; have BK1029 := n1_; have HI1030 := n2_; have BK1037 := n3_; have HB := n4_; clear n0_ n1_ n2_ n3_ n4_; (try clear hb); (try clear hb2); (try clear hk); (try clear hi)))
   go_meet
   case rel => exact ⟨_, (false), (t1035), (t1036), (by first | rfl | (simp; done) | (simp [*]; done)), H', ⟨by first | omega | exact Nat.le_refl _⟩, ⟨by (with_reducible repeat (first | apply Kd.R_alloc | apply Kd.R_drewN | apply Kd.R_drew)); exact HO1034.out⟩, ⟨by (with_reducible repeat (first | refine blk_drewN ?_ _ | refine blk_drew ?_ | refine blk_alloc ?_ _)); exact BK1029.out⟩, ⟨by (with_reducible repeat (first | refine blk_drewN ?_ _ | refine blk_drew ?_ | refine blk_alloc ?_ _)); exact BK1037.out⟩, ⟨by repeat (first | (with_reducible first | exact HI1030.out | apply IsS72.alloc | apply IsS72.drewN | apply IsS72.drew | apply IsS72.set_1 | apply IsS72.set_2 | refine IsS72.far ?_ NB1030_1029.out _ | refine IsS72.far ?_ NB1030_1037.out _) | exact HI1030.out)⟩, ⟨by repeat (first | (with_reducible first | exact HB.out | apply below_alloc | apply pw_below_drewN | apply below_drew1 | refine below_set ?_ (IsS72.ge HI1030.out) | refine below_set ?_ GE1029.out | refine below_set ?_ GE1037.out) | exact HB.out)⟩⟩
 case rest =>
  clear HC3
  try clear c1
  try clear c2
  try clear p2
  try clear c5
  try clear c8
  try clear c9
  try clear c10
  try clear c13
  try clear c15
  try clear c16
  try clear c20
  try clear c21
  try clear hcz10_0
  try clear hcz10_1
  try clear hcz17_0
  try clear hcz17_1
  try clear hcz22_0
  try clear hcz22_1
  try clear hfz10_0
  try clear hfz10_1
  try clear hfz17_0
  try clear hfz17_1
  try clear hfz22_0
  try clear hfz22_1
  obtain ⟨kq, x16_2, x1031001_2, x1031002_2, rfl, HA, HJ2, HO_1038001, BK1029, BK1037, HI1030, HB⟩ := hcut
  cases kq with
  | zero => exact absurd HA.out (by simp [spec_DrawIsExtension.j0])
  | succ kj2 =>
   have H := HA.out
   clear HA
   simp only [spec_DrawIsExtension.j0] at H
   by_cases c24 : x16_2 = true
   ·subst c24
    have H1 : ((spec_orFirst.f kj2 t1031 t1032).bind fun t1042 => (some (t1031, t1032, t1042))) = some (r1, r2, r3) := by rw [if_pos rfl] at H; exact H
    clear H
    have H := H1
    clear H1
    replace H := Option.bind_eq_some_iff.mp H
    obtain ⟨t1042, A250, H⟩ := H
    replace H : (some (t1031, t1032, t1042)) = some (r1, r2, r3) := H
    have A25 := Aside0.mk A250
    clear A250
    simp only [Option.some.injEq, Prod.mk.injEq] at H
    obtain ⟨rfl, rfl, rfl⟩ := H
    try go_wp2
    have n0_ := Aside0.mk (Kd.R_drew HO_1038001.out)
    have n1_ := Aside0.mk (blk_drew BK1029.out)
    have n2_ := Aside0.mk (blk_drew BK1037.out)
    have n3_ := Aside0.mk (IsS72.drew HI1030.out)
    have n4_ := Aside0.mk (below_drew1 HB.out)
    clear HO_1038001
    clear BK1029
    clear BK1037
    clear HI1030
    clear HB
    have HO_1038001 := n0_
    have BK1029 := n1_
    have BK1037 := n2_
    have HI1030 := n3_
    have HB := n4_
    clear n0_ n1_ n2_ n3_ n4_
    refine start_ (n := 5) (S := fun w' => w'.cell? ⟨gb1037, 0, none⟩ = some (.int .i64 t1031) ∧ w'.cell? ⟨gb1037, 1, none⟩ = some (.slice Ao11 t1032.length co11)) (ds := []) #[F,F,F,F,F] (by kernel_rfl) rfl rfl ⟨(blk_cell BK1037.out 0).trans rfl, (blk_cell BK1037.out 1).trans rfl⟩ (fun hHeld => ?_)
    generalize wc.drew = w26 at HO_1038001 BK1029 BK1037 HI1030 HB hHeld ⊢
    refine take_ (i := 0) (N := some 17) (v := ?_) (a' := ?_) #[T,F,F,F,F] rfl rfl (by kernel_rfl) (fun _ _ _ h => h) (Or.inl ⟨by rfl, ?_⟩) hHeld ?_ ?_
    rotate_left
    ·rintro w' ⟨s0, s1⟩
     go_simp
     with_reducible rfl
    rotate_left;·simp only [Act.put, L_,M_,N_, i64_w, i32_w];rfl
    refine take_ (i := 1) (N := some 18) (v := ?_) (a' := ?_) #[T,T,F,F,F] rfl rfl (by kernel_rfl) (fun _ _ _ h => h) (Or.inl ⟨by rfl, ?_⟩) hHeld ?_ ?_
    rotate_left
    ·rintro w' ⟨s0, s1⟩
     go_simp
     with_reducible rfl
    rotate_left;·simp only [Act.put, L_,M_,N_, i64_w, i32_w];rfl
    refine one_ (i := 2) (N := some 19) #[T,T,T,F,F] rfl rfl (by kernel_rfl) (by decide) (fun K hK => ?_)
    refine goes_ Tryd.func125 (by kernel_rfl) rfl #[.agg #[.int .i64 t1031, .slice Ao11 t1032.length co11]] (by rfl) rfl rfl (by (try simp only [List.map_toArray, List.map_cons, List.map_nil]); first | done | rfl | (simp only [List.length_drop, List.length_take]; rfl)) ?_
    with_reducible refine (spec_orFirst.calls kj2 t1031 _ _ t1032 t1042 _ ?side1 ?side2 A25.out).mono ?_
    (case side1 => repeat (first | exact (Kd.R_reads' HO_1038001.out).2.2 | (with_reducible refine Kd.C_alloc ?_ _) | (with_reducible refine Kd.C_drewN ?_ _) | (with_reducible refine Kd.C_drew ?_)))
    (case side2 => exact (Kd.R_reads' HO_1038001.out).2.1)
    rintro e w27 ⟨v1043, rfl, ho0, hb⟩
    refine ⟨_, rfl, ?_⟩
    have n0_ := Aside0.mk (Kd.R_elder' (by (with_reducible repeat (first | apply Kd.R_alloc | apply Kd.R_drewN | apply Kd.R_drew)); exact HO_1038001.out) (Kd.R_base ho0) hb)
    have n1_ := Aside0.mk (Kd.R_lower (Kd.R_new' ho0 (Kd.R_lt (by (with_reducible repeat (first | apply Kd.R_alloc | apply Kd.R_drewN | apply Kd.R_drew)); exact HO_1038001.out))) (below_size (by repeat (first | (with_reducible first | exact HB.out | apply below_alloc | apply pw_below_drewN | apply below_drew1 | refine below_set ?_ (IsS72.ge HI1030.out) | refine below_set ?_ GE1029.out | refine below_set ?_ GE1037.out) | exact HB.out))))
    have n2_ := Aside0.mk (blk_below (g := gb1029) (o := .cells #[.int .i64 0, .slice none 0 0] 26 (0, 0)) (by (with_reducible repeat (first | refine blk_drewN ?_ _ | refine blk_drew ?_ | refine blk_alloc ?_ _)); exact BK1029.out) hb)
    have n3_ := Aside0.mk (blk_below (g := gb1037) (o := .cells #[.int .i64 t1031, .slice Ao11 t1032.length co11] 26 (0, 0)) (by (with_reducible repeat (first | refine blk_drewN ?_ _ | refine blk_drew ?_ | refine blk_alloc ?_ _)); exact BK1037.out) hb)
    have n4_ := Aside0.mk (IsS72.below (by repeat (first | (with_reducible first | exact HI1030.out | apply IsS72.alloc | apply IsS72.drewN | apply IsS72.drew | apply IsS72.set_1 | apply IsS72.set_2 | refine IsS72.far ?_ NB1030_1029.out _ | refine IsS72.far ?_ NB1030_1037.out _) | exact HI1030.out)) hb)
    have n5_ := Aside0.mk (below_step (by repeat (first | (with_reducible first | exact HB.out | apply below_alloc | apply pw_below_drewN | apply below_drew1 | refine below_set ?_ (IsS72.ge HI1030.out) | refine below_set ?_ GE1029.out | refine below_set ?_ GE1037.out) | exact HB.out)) hb)
    clear HO_1038001
    clear BK1029
    clear BK1037
    clear HI1030
    clear HB
    have HO_1038001 := n0_
    have HO1044 := n1_
    have BK1029 := n2_
    have BK1037 := n3_
    have HI1030 := n4_
    have HB := n5_
    clear n0_ n1_ n2_ n3_ n4_ n5_
    (try clear hb)
    (try clear hb2)
    (try clear hk)
    (try clear hi)
    (try clear ho0)
    refine hK.out _ _ ⟨(blk_cell BK1037.out 0).trans rfl, (blk_cell BK1037.out 1).trans rfl⟩ (fun hHeld => ?_)
    clear hK K
    refine norm_ (a' := ?_) ?_ ?_
    rotate_left
    ·show Act.put _ (some 19) _ = _
     simp only [Act.put, L_,M_,N_, i64_w, i32_w]
     rfl
    refine one_ (i := 3) (N := none) #[T,T,T,T,F] rfl rfl (by kernel_rfl) (by decide) (fun K hK => ?_)
    have hs28 : w27.cell? ⟨gb1029, 0, none⟩ = some (.int .i64 0) := (blk_cell BK1029.out 0).trans rfl
    have hfs28 := blk_frozen BK1029.out 0
    have hns28_1 := NB1037_1029.out
    have hms28_1 := NB1029_1037.out
    have hs29 : w27.cell? ⟨gb1029, 1, none⟩ = some (.slice none 0 0) := (blk_cell BK1029.out 1).trans rfl
    have hfs29 := blk_frozen BK1029.out 1
    have hns29_1 := NB1037_1029.out
    have hms29_1 := NB1029_1037.out
    refine skip_ (w1 := ?_) (by rfl) rfl ?_ ?_
    rotate_left
    ·go_simp
     rfl
    refine hK.out _ _ ⟨((cell_far (p := ⟨gb1029, _, none⟩) NB1037_1029.out _).trans (((cell_far (p := ⟨gb1029, _, none⟩) NB1037_1029.out _).trans (hHeld.1)))), ((cell_far (p := ⟨gb1029, _, none⟩) NB1037_1029.out _).trans (((cell_far (p := ⟨gb1029, _, none⟩) NB1037_1029.out _).trans (hHeld.2))))⟩ (fun hHeld => ?_)
    clear hK K
    refine pure_ (i := 4) (N := some 3) (v := ?_) (a' := ?_) #[T,T,T,T,T] rfl rfl (by kernel_rfl) (fun _ _ _ h => h) (Or.inl ⟨by rfl, ?_⟩) ?_ ?_
    rotate_left;·intro w';go_simp;with_reducible rfl
    rotate_left;·simp only [Act.put, L_,M_,N_, i64_w, i32_w];rfl
    refine done_ (by kernel_rfl) ?_
    try go_wp2
    refine bodyPost_ret (results_ct rfl _ _ gb1029 26 #[.int .i64 t1031, .slice Ao11 t1032.length co11] (0, 0) _ rfl (by (with_reducible repeat (first | refine blk_drewN ?_ _ | refine blk_drew ?_ | refine blk_alloc ?_ _)); refine blk_put (cs := #[.int .i64 t1031, .slice none 0 0]) ?_ 1 _ rfl; (with_reducible repeat (first | refine blk_drewN ?_ _ | refine blk_drew ?_ | refine blk_alloc ?_ _)); refine blk_put (cs := #[.int .i64 0, .slice none 0 0]) ?_ 0 _ rfl; (with_reducible repeat (first | refine blk_drewN ?_ _ | refine blk_drew ?_ | refine blk_alloc ?_ _)); exact BK1029.out) Tryd.underlying26 rfl (by kernel_rfl)) rfl ?_
    exact ⟨_, _, by first | rfl | (simp [errW_none, errW_some] <;> rfl) | (simp [*, errW_none, errW_some] <;> rfl), by (with_reducible repeat (first | apply Kd.R_alloc | apply Kd.R_drewN | apply Kd.R_drew)); exact Kd.R_mono (Kd.R_far (p := ⟨gb1029, 1, none⟩) (Kd.R_far (p := ⟨gb1029, 0, none⟩) (Kd.R_types HO_1038001.out BK1029.out (by decide)) (fun _ hk => hk.2) (.int .i64 t1031)) (fun _ hk => hk.2) (.slice Ao11 t1032.length co11)) (fun _ hk => hk.1.2), by (with_reducible repeat (first | apply Kd.R_alloc | apply Kd.R_drewN | apply Kd.R_drew)); exact Kd.R_mono (Kd.R_far (p := ⟨gb1029, 1, none⟩) (Kd.R_far (p := ⟨gb1029, 0, none⟩) (Kd.R_types HO1044.out BK1029.out (by decide)) (fun _ hk => hk.2) (.int .i64 t1031)) (fun _ hk => hk.2) (.slice Ao11 t1032.length co11)) (fun _ hk => hk.1.2), by repeat (first | (with_reducible first | exact HB.out | apply below_alloc | apply pw_below_drewN | apply below_drew1 | refine below_set ?_ (IsS72.ge HI1030.out) | refine below_set ?_ GE1029.out | refine below_set ?_ GE1037.out) | exact HB.out)⟩
   ·replace c24 := Bool.eq_false_iff.mpr c24
    subst c24
    have H1 : ((spec_l1Most.f 0 t1031).bind fun t1045 => ((spec_l1Cur_names.f kj2 l0 x1031001_2 x1031002_2 t1045).bind fun bt1046 => (some (t1031, t1032, bt1046.1)))) = some (r1, r2, r3) := by rw [if_neg (show ¬ (false = true) by decide)] at H; exact H
    clear H
    have H := H1
    clear H1
    replace H := Option.bind_eq_some_iff.mp H
    obtain ⟨t1045, A300, H⟩ := H
    replace H : ((spec_l1Cur_names.f kj2 l0 x1031001_2 x1031002_2 t1045).bind fun bt1046 => (some (t1031, t1032, bt1046.1))) = some (r1, r2, r3) := H
    have A30 := Aside0.mk A300
    clear A300
    replace H := Option.bind_eq_some_iff.mp H
    obtain ⟨⟨t1046, t1049, t1050⟩, A310, H⟩ := H
    replace H : (some (t1031, t1032, t1046)) = some (r1, r2, r3) := H
    have A31 := Aside0.mk A310
    clear A310
    simp only [Option.some.injEq, Prod.mk.injEq] at H
    obtain ⟨rfl, rfl, rfl⟩ := H
    try go_wp2
    have n0_ := Aside0.mk (Kd.R_drew HO_1038001.out)
    have n1_ := Aside0.mk (blk_drew BK1029.out)
    have n2_ := Aside0.mk (blk_drew BK1037.out)
    have n3_ := Aside0.mk (IsS72.drew HI1030.out)
    have n4_ := Aside0.mk (below_drew1 HB.out)
    clear HO_1038001
    clear BK1029
    clear BK1037
    clear HI1030
    clear HB
    have HO_1038001 := n0_
    have BK1029 := n1_
    have BK1037 := n2_
    have HI1030 := n3_
    have HB := n4_
    clear n0_ n1_ n2_ n3_ n4_
    refine start_ (n := 8) (S := fun w' => w'.cell? ⟨gb1037, 0, none⟩ = some (.int .i64 t1031) ∧ w'.cell? ⟨gb1037, 1, none⟩ = some (.slice Ao11 t1032.length co11)) (ds := []) #[F,F,F,F,F,F,F,F] (by kernel_rfl) rfl rfl ⟨(blk_cell BK1037.out 0).trans rfl, (blk_cell BK1037.out 1).trans rfl⟩ (fun hHeld => ?_); refine with_tabW spec_DrawIsExtension.tab5 spec_DrawIsExtension.bits5 (fun HT_ HW_ => ?_)
    generalize wc.drew = w32 at HO_1038001 BK1029 BK1037 HI1030 HB hHeld ⊢
    refine pure_ (i := 1) (N := some 21) (v := ?_) (a' := ?_) #[F,T,F,F,F,F,F,F] rfl rfl (any_of HT_.out (by kernel_rfl)) (fun _ _ _ h => h) (Or.inl ⟨by rfl, ?_⟩) ?_ ?_
    rotate_left;·intro w';go_simp;with_reducible rfl
    rotate_left;·simp only [Act.put, L_,M_,N_, i64_w, i32_w];rfl
    refine pure_ (i := 2) (N := some 22) (v := ?_) (a' := ?_) #[F,T,T,F,F,F,F,F] rfl rfl (any_of HT_.out (by kernel_rfl)) (fun _ _ _ h => h) (Or.inl ⟨by rfl, ?_⟩) ?_ ?_
    rotate_left;·intro w';go_simp;with_reducible rfl
    rotate_left;·simp only [Act.put, L_,M_,N_, i64_w, i32_w];rfl
    refine take_ (i := 0) (N := some 20) (v := ?_) (a' := ?_) #[T,T,T,F,F,F,F,F] rfl rfl (take_ofW HT_.out HW_.out (by kernel_rfl)) (fun _ _ _ h => h) (Or.inl ⟨by rfl, ?_⟩) hHeld ?_ ?_
    rotate_left
    ·rintro w' ⟨s0, s1⟩
     go_simp
     with_reducible rfl
    rotate_left;·simp only [Act.put, L_,M_,N_, i64_w, i32_w];rfl
    refine take_ (i := 3) (N := some 23) (v := ?_) (a' := ?_) #[T,T,T,T,F,F,F,F] rfl rfl (take_ofW HT_.out HW_.out (by kernel_rfl)) (fun _ _ _ h => h) (Or.inl ⟨by rfl, ?_⟩) hHeld ?_ ?_
    rotate_left
    ·rintro w' ⟨s0, s1⟩
     go_simp
     with_reducible rfl
    rotate_left;·simp only [Act.put, L_,M_,N_, i64_w, i32_w];rfl
    refine one_ (i := 4) (N := some 24) #[T,T,T,T,T,F,F,F] rfl rfl (one_of HT_.out (by kernel_rfl)) (by decide) (fun K hK => ?_)
    refine goes_ Tryd.func127 (by kernel_rfl) rfl #[.int .i64 0, .int .i64 t1031] (by rfl) rfl rfl (by (try simp only [List.map_toArray, List.map_cons, List.map_nil]); first | done | rfl | (simp only [List.length_drop, List.length_take]; rfl)) ?_
    with_reducible refine (spec_l1Most.calls 0 t1031 t1045 _ A30.out).mono ?_
    rintro e w' ⟨rfl, ⟨nd, rfl⟩⟩
    refine ⟨_, rfl, ?_⟩
    refine hK.out _ _ ⟨(blk_cell BK1037.out 0).trans rfl, (blk_cell BK1037.out 1).trans rfl⟩ (fun hHeld => ?_)
    clear hK K
    refine norm_ (a' := ?_) ?_ ?_
    rotate_left
    ·show Act.put _ (some 24) _ = _
     simp only [Act.put, L_,M_,N_, i64_w, i32_w]
     rfl
    refine one_ (i := 5) (N := some 25) #[T,T,T,T,T,T,F,F] rfl rfl (one_of HT_.out (by kernel_rfl)) (by decide) (fun K hK => ?_)
    refine goes_ Tryd.func126 (by kernel_rfl) rfl #[.pointer (some ⟨gb1030, 0, none⟩), .int .i64 t1045] (by rfl) rfl rfl (by (try simp only [List.map_toArray, List.map_cons, List.map_nil]); first | done | rfl | (simp only [List.length_drop, List.length_take]; rfl)) ?_
    with_reducible refine (spec_l1Cur_names.calls kj2 gb1030 l0 x1031001_2 x1031002_2 t1045 t1046 t1049 t1050 w _ ?side1 ?side2 A31.out).mono ?_
    (case side1 => repeat (first | (with_reducible first | exact HI1030.out | apply IsS72.alloc | apply IsS72.drewN | apply IsS72.drew | apply IsS72.set_1 | apply IsS72.set_2 | refine IsS72.far ?_ NB1030_1029.out _ | refine IsS72.far ?_ NB1030_1037.out _) | exact HI1030.out))
    (case side2 => repeat (first | (with_reducible first | exact HB.out | apply below_alloc | apply pw_below_drewN | apply below_drew1 | refine below_set ?_ (IsS72.ge HI1030.out) | refine below_set ?_ GE1029.out | refine below_set ?_ GE1037.out) | exact HB.out))
    rintro e w33 ⟨v1047, rfl, ho0, hi, hb, hk⟩
    refine ⟨_, rfl, ?_⟩
    have n0_ := Aside0.mk (Kd.R_mono (Kd.R_told (Kd.R_oldK (IsS72.apart (show IsS72 w _ gb1030 l0 x1031001_2 x1031002_2 from by repeat (first | (with_reducible first | exact HI1030.out | apply IsS72.alloc | apply IsS72.drewN | apply IsS72.drew | apply IsS72.set_1 | apply IsS72.set_2 | refine IsS72.far ?_ NB1030_1029.out _ | refine IsS72.far ?_ NB1030_1037.out _) | exact HI1030.out)) (by (with_reducible repeat (first | apply Kd.R_alloc | apply Kd.R_drewN | apply Kd.R_drew)); exact HO_1038001.out) (by decide)) hk) (Kd.R_base ho0)) (fun _ h_ => h_.1))
    have n1_ := Aside0.mk (KeepBut.blk hk (g' := gb1029) (o := .cells #[.int .i64 0, .slice none 0 0] 26 (0, 0)) (by (with_reducible repeat (first | refine blk_drewN ?_ _ | refine blk_drew ?_ | refine blk_alloc ?_ _)); exact BK1029.out) NB1029_1030.out (by simp))
    have n2_ := Aside0.mk (KeepBut.blk hk (g' := gb1037) (o := .cells #[.int .i64 t1031, .slice Ao11 t1032.length co11] 26 (0, 0)) (by (with_reducible repeat (first | refine blk_drewN ?_ _ | refine blk_drew ?_ | refine blk_alloc ?_ _)); exact BK1037.out) NB1037_1030.out (by simp))
    have n3_ := Aside0.mk (Kd.R_lower (Kd.R_new' ho0 (Kd.R_lt (by (with_reducible repeat (first | apply Kd.R_alloc | apply Kd.R_drewN | apply Kd.R_drew)); exact HO_1038001.out))) (below_size (by repeat (first | (with_reducible first | exact HB.out | apply below_alloc | apply pw_below_drewN | apply below_drew1 | refine below_set ?_ (IsS72.ge HI1030.out) | refine below_set ?_ GE1029.out | refine below_set ?_ GE1037.out) | exact HB.out))))
    have n4_ := Aside0.mk (hb)
    have n5_ := Aside0.mk (hi)
    clear HO_1038001
    clear BK1029
    clear BK1037
    clear HB
    clear HI1030
    have HO_1038001 := n0_
    have BK1029 := n1_
    have BK1037 := n2_
    have HO1048 := n3_
    have HB := n4_
    have HI1030 := n5_
    clear n0_ n1_ n2_ n3_ n4_ n5_
    (try clear hb)
    (try clear hb2)
    (try clear hk)
    (try clear hi)
    (try clear ho0)
    refine hK.out _ _ ⟨(blk_cell BK1037.out 0).trans rfl, (blk_cell BK1037.out 1).trans rfl⟩ (fun hHeld => ?_)
    clear hK K
    refine norm_ (a' := ?_) ?_ ?_
    rotate_left
    ·show Act.put _ (some 25) _ = _
     simp only [Act.put, L_,M_,N_, i64_w, i32_w]
     rfl
    refine one_ (i := 6) (N := none) #[T,T,T,T,T,T,T,F] rfl rfl (one_of HT_.out (by kernel_rfl)) (by decide) (fun K hK => ?_)
    have hs34 : w33.cell? ⟨gb1029, 0, none⟩ = some (.int .i64 0) := (blk_cell BK1029.out 0).trans rfl
    have hfs34 := blk_frozen BK1029.out 0
    have hns34_1 := NB1037_1029.out
    have hms34_1 := NB1029_1037.out
    have hs35 : w33.cell? ⟨gb1029, 1, none⟩ = some (.slice none 0 0) := (blk_cell BK1029.out 1).trans rfl
    have hfs35 := blk_frozen BK1029.out 1
    have hns35_1 := NB1037_1029.out
    have hms35_1 := NB1029_1037.out
    refine skip_ (w1 := ?_) (by rfl) rfl ?_ ?_
    rotate_left
    ·go_simp
     rfl
    refine hK.out _ _ ⟨((cell_far (p := ⟨gb1029, _, none⟩) NB1037_1029.out _).trans (((cell_far (p := ⟨gb1029, _, none⟩) NB1037_1029.out _).trans (hHeld.1)))), ((cell_far (p := ⟨gb1029, _, none⟩) NB1037_1029.out _).trans (((cell_far (p := ⟨gb1029, _, none⟩) NB1037_1029.out _).trans (hHeld.2))))⟩ (fun hHeld => ?_)
    clear hK K
    refine pure_ (i := 7) (N := some 3) (v := ?_) (a' := ?_) #[T,T,T,T,T,T,T,T] rfl rfl (any_of HT_.out (by kernel_rfl)) (fun _ _ _ h => h) (Or.inl ⟨by rfl, ?_⟩) ?_ ?_
    rotate_left;·intro w';go_simp;with_reducible rfl
    rotate_left;·simp only [Act.put, L_,M_,N_, i64_w, i32_w];rfl
    refine done_ (done_of HT_.out (by kernel_rfl)) ?_
    try go_wp2
    refine bodyPost_ret (results_ct rfl _ _ gb1029 26 #[.int .i64 t1031, .slice Ao11 t1032.length co11] (0, 0) _ rfl (by (with_reducible repeat (first | refine blk_drewN ?_ _ | refine blk_drew ?_ | refine blk_alloc ?_ _)); refine blk_put (cs := #[.int .i64 t1031, .slice none 0 0]) ?_ 1 _ rfl; (with_reducible repeat (first | refine blk_drewN ?_ _ | refine blk_drew ?_ | refine blk_alloc ?_ _)); refine blk_put (cs := #[.int .i64 0, .slice none 0 0]) ?_ 0 _ rfl; (with_reducible repeat (first | refine blk_drewN ?_ _ | refine blk_drew ?_ | refine blk_alloc ?_ _)); exact BK1029.out) Tryd.underlying26 rfl (by kernel_rfl)) rfl ?_
    exact ⟨_, _, by first | rfl | (simp [errW_none, errW_some] <;> rfl) | (simp [*, errW_none, errW_some] <;> rfl), by (with_reducible repeat (first | apply Kd.R_alloc | apply Kd.R_drewN | apply Kd.R_drew)); exact Kd.R_mono (Kd.R_far (p := ⟨gb1029, 1, none⟩) (Kd.R_far (p := ⟨gb1029, 0, none⟩) (Kd.R_types HO_1038001.out BK1029.out (by decide)) (fun _ hk => hk.2) (.int .i64 t1031)) (fun _ hk => hk.2) (.slice Ao11 t1032.length co11)) (fun _ hk => hk.1.2), by (with_reducible repeat (first | apply Kd.R_alloc | apply Kd.R_drewN | apply Kd.R_drew)); exact Kd.R_mono (Kd.R_far (p := ⟨gb1029, 1, none⟩) (Kd.R_far (p := ⟨gb1029, 0, none⟩) (Kd.R_types HO1048.out BK1029.out (by decide)) (fun _ hk => hk.2) (.int .i64 t1031)) (fun _ hk => hk.2) (.slice Ao11 t1032.length co11)) (fun _ hk => hk.1.2), by repeat (first | (with_reducible first | exact HB.out | apply below_alloc | apply pw_below_drewN | apply below_drew1 | refine below_set ?_ (IsS72.ge HI1030.out) | refine below_set ?_ GE1029.out | refine below_set ?_ GE1037.out) | exact HB.out)⟩
def spec_orNames.f (k : Nat) (a0 : Int) (l1 : List Int) : Option (Bool) := if (l1.length : Int) = a0 then ((spec_l1All.f k l1 0 (wrap64 (a0 - 1))).bind fun t1051 => (if t1051 = true then ((spec_orSet.f k l1).bind fun t1052 => (if 0 ≤ a0 then (some (t1052 == (wrap64 ((shl .i64 1 a0) - 1)))) else (none))) else (some false))) else (some false)
set_option maxHeartbeats 8000000 in
set_option maxRecDepth 100000 in
theorem spec_orNames.calls (k : Nat) (a0 : Int) (A1 : Option Addr) (c1 : Nat) (l1 : List Int) (r : Bool) (w : World) (hr1 : Kd.C (Kd.int .i64) w A1 l1.length l1) (hc1 : l1.length ≤ c1) (h : spec_orNames.f k a0 l1 = some r) :
 Calls Tryd.prog 129 #[.int .i64 a0, .slice A1 l1.length c1] w fun e w' => e = .returned (.bool r) ∧ Drawn0 w w' := by
 have HR1 := Aside0.mk hr1
 have HC1 := Aside0.mk hc1
 clear hr1 hc1
 have H : (if (l1.length : Int) = a0 then ((spec_l1All.f k l1 0 (wrap64 (a0 - 1))).bind fun t1051 => (if t1051 = true then ((spec_orSet.f k l1).bind fun t1052 => (if 0 ≤ a0 then (some (t1052 == (wrap64 ((shl .i64 1 a0) - 1)))) else (none))) else (some false))) else (some false)) = some r := h
 clear h
 by_cases c3 : (l1.length : Int) = a0
 ·rw [if_pos c3] at H
  have c3b0 : ((l1.length : Int) == a0) = true := beq_iff_eq.mpr c3
  have c3b1 : ((l1.length : Int) != a0) = false := bne_eq_false_iff_eq.mpr c3
  clear c3
  replace H := Option.bind_eq_some_iff.mp H
  obtain ⟨t1051, A40, H⟩ := H
  replace H : (if t1051 = true then ((spec_orSet.f k l1).bind fun t1052 => (if 0 ≤ a0 then (some (t1052 == (wrap64 ((shl .i64 1 a0) - 1)))) else (none))) else (some false)) = some r := H
  have A4 := Aside0.mk A40
  clear A40
  by_cases c5 : t1051 = true
  ·subst c5
   have H1 : ((spec_orSet.f k l1).bind fun t1052 => (if 0 ≤ a0 then (some (t1052 == (wrap64 ((shl .i64 1 a0) - 1)))) else (none))) = some r := by rw [if_pos rfl] at H; exact H
   clear H
   have H := H1
   clear H1
   replace H := Option.bind_eq_some_iff.mp H
   obtain ⟨t1052, A60, H⟩ := H
   replace H : (if 0 ≤ a0 then (some (t1052 == (wrap64 ((shl .i64 1 a0) - 1)))) else (none)) = some r := H
   have A6 := Aside0.mk A60
   clear A60
   by_cases c7 : 0 ≤ a0
   ·rw [if_pos c7] at H
    have c7b0 := eq_true c7
    have c7b1 : decide (0 ≤ a0) = true := decide_eq_true c7
    clear c7
    obtain ⟨ji8, hji8⟩ : ∃ j_ : Int, (shl .i64 1 a0) = j_ := ⟨_, rfl⟩
    replace H : (some (t1052 == (wrap64 ((ji8) - 1)))) = some r := by first | (rw [hji8] at H; exact H) | (simp only [hji8] at H ⊢; exact H)
    (try rw [hji8] at A4)
    (try rw [hji8] at A6)
    have hji8_ : (IntKind.i64.wrap (1 * 2 ^ min a0.toNat 64)) = ji8 := hji8
    have hji8z : a0 ≤ 64 → (IntKind.i64.wrap (1 * 2 ^ a0.toNat)) = ji8 := shl_small hji8
    have hji8u : (IntKind.i64.wrap (2 ^ min a0.toNat 64)) = ji8 := by have h_ := hji8_; rw [Int.one_mul] at h_; exact h_
    have hji8v : a0 ≤ 64 → (IntKind.i64.wrap (2 ^ a0.toNat)) = ji8 := fun hle_ => by have h_ := hji8z hle_; rw [Int.one_mul] at h_; exact h_
    have hji8y : (wrap64 (1 * 2 ^ min a0.toNat 64)) = ji8 := (i64_w _).symm.trans hji8_
    have hji8x : a0 ≤ 64 → (wrap64 (1 * 2 ^ a0.toNat)) = ji8 := fun h_ => (i64_w _).symm.trans (hji8z h_)
    obtain rfl := Option.some.inj H
    go_enter Tryd.func129, Tryd.ntmps129
    go_wp2_with (first | (go_at_call 97; (with_reducible refine (spec_l1All.calls k _ _ l1 0 (wrap64 (a0 - 1)) true _ ?side1 ?side2 A4.out).mono ?_); (case side1 => repeat (first | exact HR1.out | (with_reducible refine Kd.C_alloc ?_ _) | (with_reducible refine Kd.C_drewN ?_ _) | (with_reducible refine Kd.C_drew ?_))); (case side2 => exact HC1.out); rintro e w' ⟨rfl, ⟨nd, rfl⟩⟩; (try first | exact ⟨rfl, _, World.drewN_drewN _ _ _⟩ | exact ⟨rfl, _, Eq.trans (World.drewN_drewN _ _ _) (congrArg (World.drewN _) (Nat.add_assoc _ _ _))⟩)) | (go_at_call 165; (with_reducible refine (spec_orSet.calls k _ _ l1 t1052 _ ?side1 ?side2 A6.out).mono ?_); (case side1 => repeat (first | exact HR1.out | (with_reducible refine Kd.C_alloc ?_ _) | (with_reducible refine Kd.C_drewN ?_ _) | (with_reducible refine Kd.C_drew ?_))); (case side2 => exact HC1.out); rintro e w' ⟨rfl, ⟨nd, rfl⟩⟩; (try first | exact ⟨rfl, _, World.drewN_drewN _ _ _⟩ | exact ⟨rfl, _, Eq.trans (World.drewN_drewN _ _ _) (congrArg (World.drewN _) (Nat.add_assoc _ _ _))⟩)))
    repeat (go_quiet (first | (go_at_call 97; (with_reducible refine (spec_l1All.calls k _ _ l1 0 (wrap64 (a0 - 1)) true _ ?side1 ?side2 A4.out).mono ?_); (case side1 => repeat (first | exact HR1.out | (with_reducible refine Kd.C_alloc ?_ _) | (with_reducible refine Kd.C_drewN ?_ _) | (with_reducible refine Kd.C_drew ?_))); (case side2 => exact HC1.out); rintro e w' ⟨rfl, ⟨nd, rfl⟩⟩; (try first | exact ⟨rfl, _, World.drewN_drewN _ _ _⟩ | exact ⟨rfl, _, Eq.trans (World.drewN_drewN _ _ _) (congrArg (World.drewN _) (Nat.add_assoc _ _ _))⟩)) | (go_at_call 165; (with_reducible refine (spec_orSet.calls k _ _ l1 t1052 _ ?side1 ?side2 A6.out).mono ?_); (case side1 => repeat (first | exact HR1.out | (with_reducible refine Kd.C_alloc ?_ _) | (with_reducible refine Kd.C_drewN ?_ _) | (with_reducible refine Kd.C_drew ?_))); (case side2 => exact HC1.out); rintro e w' ⟨rfl, ⟨nd, rfl⟩⟩; (try first | exact ⟨rfl, _, World.drewN_drewN _ _ _⟩ | exact ⟨rfl, _, Eq.trans (World.drewN_drewN _ _ _) (congrArg (World.drewN _) (Nat.add_assoc _ _ _))⟩))); try go_wp2_with (first | (go_at_call 97; (with_reducible refine (spec_l1All.calls k _ _ l1 0 (wrap64 (a0 - 1)) true _ ?side1 ?side2 A4.out).mono ?_); (case side1 => repeat (first | exact HR1.out | (with_reducible refine Kd.C_alloc ?_ _) | (with_reducible refine Kd.C_drewN ?_ _) | (with_reducible refine Kd.C_drew ?_))); (case side2 => exact HC1.out); rintro e w' ⟨rfl, ⟨nd, rfl⟩⟩; (try first | exact ⟨rfl, _, World.drewN_drewN _ _ _⟩ | exact ⟨rfl, _, Eq.trans (World.drewN_drewN _ _ _) (congrArg (World.drewN _) (Nat.add_assoc _ _ _))⟩)) | (go_at_call 165; (with_reducible refine (spec_orSet.calls k _ _ l1 t1052 _ ?side1 ?side2 A6.out).mono ?_); (case side1 => repeat (first | exact HR1.out | (with_reducible refine Kd.C_alloc ?_ _) | (with_reducible refine Kd.C_drewN ?_ _) | (with_reducible refine Kd.C_drew ?_))); (case side2 => exact HC1.out); rintro e w' ⟨rfl, ⟨nd, rfl⟩⟩; (try first | exact ⟨rfl, _, World.drewN_drewN _ _ _⟩ | exact ⟨rfl, _, Eq.trans (World.drewN_drewN _ _ _) (congrArg (World.drewN _) (Nat.add_assoc _ _ _))⟩))))
    go_ret
    exact ⟨by first | rfl | (simp; done) | (simp only [← hji8] <;> (first | rfl | simp)) | (simp [*]; done), by repeat (first | exact Drawn0.refl _ | apply Drawn0.step)⟩
   ·rw [if_neg c7] at H
    exact absurd H (by simp)
  ·replace c5 := Bool.eq_false_iff.mpr c5
   subst c5
   have H1 : (some false) = some r := by rw [if_neg (show ¬ (false = true) by decide)] at H; exact H
   clear H
   have H := H1
   clear H1
   obtain rfl := Option.some.inj H
   go_enter Tryd.func129, Tryd.ntmps129
   go_wp2_with (first | (go_at_call 97; (with_reducible refine (spec_l1All.calls k _ _ l1 0 (wrap64 (a0 - 1)) false _ ?side1 ?side2 A4.out).mono ?_); (case side1 => repeat (first | exact HR1.out | (with_reducible refine Kd.C_alloc ?_ _) | (with_reducible refine Kd.C_drewN ?_ _) | (with_reducible refine Kd.C_drew ?_))); (case side2 => exact HC1.out); rintro e w' ⟨rfl, ⟨nd, rfl⟩⟩; (try first | exact ⟨rfl, _, World.drewN_drewN _ _ _⟩ | exact ⟨rfl, _, Eq.trans (World.drewN_drewN _ _ _) (congrArg (World.drewN _) (Nat.add_assoc _ _ _))⟩)))
   repeat (go_quiet (first | (go_at_call 97; (with_reducible refine (spec_l1All.calls k _ _ l1 0 (wrap64 (a0 - 1)) false _ ?side1 ?side2 A4.out).mono ?_); (case side1 => repeat (first | exact HR1.out | (with_reducible refine Kd.C_alloc ?_ _) | (with_reducible refine Kd.C_drewN ?_ _) | (with_reducible refine Kd.C_drew ?_))); (case side2 => exact HC1.out); rintro e w' ⟨rfl, ⟨nd, rfl⟩⟩; (try first | exact ⟨rfl, _, World.drewN_drewN _ _ _⟩ | exact ⟨rfl, _, Eq.trans (World.drewN_drewN _ _ _) (congrArg (World.drewN _) (Nat.add_assoc _ _ _))⟩))); try go_wp2_with (first | (go_at_call 97; (with_reducible refine (spec_l1All.calls k _ _ l1 0 (wrap64 (a0 - 1)) false _ ?side1 ?side2 A4.out).mono ?_); (case side1 => repeat (first | exact HR1.out | (with_reducible refine Kd.C_alloc ?_ _) | (with_reducible refine Kd.C_drewN ?_ _) | (with_reducible refine Kd.C_drew ?_))); (case side2 => exact HC1.out); rintro e w' ⟨rfl, ⟨nd, rfl⟩⟩; (try first | exact ⟨rfl, _, World.drewN_drewN _ _ _⟩ | exact ⟨rfl, _, Eq.trans (World.drewN_drewN _ _ _) (congrArg (World.drewN _) (Nat.add_assoc _ _ _))⟩))))
   go_ret
   exact ⟨by first | rfl | (simp; done) | (simp [*]; done), by repeat (first | exact Drawn0.refl _ | apply Drawn0.step)⟩
 ·rw [if_neg c3] at H
  have c3b0 : ((l1.length : Int) == a0) = false := beq_eq_false_iff_ne.mpr c3
  have c3b1 : ((l1.length : Int) != a0) = true := bne_iff_ne.mpr c3
  obtain rfl := Option.some.inj H
  go_enter Tryd.func129, Tryd.ntmps129
  go_wp2
  repeat (go_quiet (fail); try go_wp2)
  go_ret
  exact ⟨by first | rfl | (simp; done) | (simp [*]; done), by repeat (first | exact Drawn0.refl _ | apply Drawn0.step)⟩
def spec_orExtends.l0 : Nat → List Int → List Int → Int → Int → Int → List Int → Option (Bool)
 | 0, _, _, _, _, _, _ => none
 | k + 1, x1, x12, x13, x14, x1054000, x1054001 => if x14 < x13 then (if 0 ≤ x14 then (if x14 < (x12.length : Int) then ((spec_orBelow.f k x1054000 x1054001 (rd x12 x14)).bind fun t1056 => (if x14 ≤ (x1.length : Int) then ((spec_orSet.f k (x1.take (x14 : Int).toNat)).bind fun t1058 => (if (Go.bits .andNot .i64 t1056 t1058) = 0 then (spec_orExtends.l0 k x1 x12 x13 (wrap64 (x14 + 1)) x1054000 x1054001) else (some false))) else (none))) else (none)) else (none)) else (some true)
def spec_orExtends.f (k : Nat) (a0_0 : Int) (l0_1 : List Int) (l1 : List Int) : Option (Bool) := (spec_orNames.f k a0_0 l1).bind fun t1054 => (if t1054 = true then (spec_orExtends.l0 k l1 l1 (l1.length : Int) 0 a0_0 l0_1) else (some false))
def spec_orExtends.T6 : Bool × List (List Nat × List Nat) := (true, [([], []), ([], []), ([0, 1], [0, 1]), ([], []), ([], []), ([3, 4], [3, 4]), ([5, 2], [5]), ([2, 6], [2, 6]), ([7], [7])])
def spec_orExtends.B6 : List Nat := [0, 0, 3, 0, 0, 24, 63, 127, 255]
theorem spec_orExtends.tab6 : rtab .any (opsOf Tryd.f128 6) = spec_orExtends.T6 := by kernel_rfl
theorem spec_orExtends.bits6 : waitsOk spec_orExtends.T6.2 spec_orExtends.B6 = true := by kernel_rfl
set_option maxHeartbeats 8000000 in
set_option maxRecDepth 100000 in
theorem spec_orExtends.calls (k : Nat) (a0_0 : Int) (A0_1 : Option Addr) (c0_1 : Nat) (l0_1 : List Int) (A1 : Option Addr) (c1 : Nat) (l1 : List Int) (r : Bool) (w : World) (hr0_1 : Kd.C (Kd.int .i64) w A0_1 l0_1.length l0_1) (hc0_1 : l0_1.length ≤ c0_1) (hr1 : Kd.C (Kd.int .i64) w A1 l1.length l1) (hc1 : l1.length ≤ c1) (h : spec_orExtends.f k a0_0 l0_1 l1 = some r) :
 Calls Tryd.prog 128 #[.agg #[.int .i64 a0_0, .slice A0_1 l0_1.length c0_1], .slice A1 l1.length c1] w fun e w' => e = .returned (.bool r) ∧ Below w.heap.size w w' := by
 have hu26 := Tryd.underlying26
 have HR0_1 := Aside0.mk hr0_1
 have HC0_1 := Aside0.mk hc0_1
 clear hr0_1 hc0_1
 have HR1 := Aside0.mk hr1
 have HC1 := Aside0.mk hc1
 clear hr1 hc1
 have HB := Aside0.mk (Below.refl w.heap.size w)
 have H : ((spec_orNames.f k a0_0 l1).bind fun t1054 => (if t1054 = true then (spec_orExtends.l0 k l1 l1 (l1.length : Int) 0 a0_0 l0_1) else (some false))) = some r := h
 clear h
 replace H := Option.bind_eq_some_iff.mp H
 obtain ⟨t1054, A30, H⟩ := H
 replace H : (if t1054 = true then (spec_orExtends.l0 k l1 l1 (l1.length : Int) 0 a0_0 l0_1) else (some false)) = some r := H
 have A3 := Aside0.mk A30
 clear A30
 by_cases c4 : t1054 = true
 ·subst c4
  have H1 : (spec_orExtends.l0 k l1 l1 (l1.length : Int) 0 a0_0 l0_1) = some r := by rw [if_pos rfl] at H; exact H
  clear H
  have H := H1
  clear H1
  have H' := Aside0.mk H
  clear H
  go_enter Tryd.func128, Tryd.ntmps128
  go_wp2_with (first | ((with_reducible refine gate_dst (N := 2) rfl ?_); refine box_event ?hg (N := 2) ?hd (cs := #[.int .i64 a0_0, .slice A0_1 l0_1.length c0_1]) (t := 26) ?hr ?_; (case hd => rfl); (case hg => rfl); (case hr => first | (go_simp; done) | (go_simp; rfl)); intro gb1053 hg w5 hbox hb; have n0_ := Aside0.mk (below_step (by repeat (first | (with_reducible first | exact HB.out | apply below_alloc | apply pw_below_drewN | apply below_drew1) | exact HB.out)) hb); have n1_ := Aside0.mk (hbox); have n2_ := Aside0.mk ((by rw [hg]; exact (below_size (by repeat (first | (with_reducible first | exact HB.out | apply below_alloc | apply pw_below_drewN | apply below_drew1) | exact HB.out))) : w.heap.size ≤ gb1053)); have n3_ := Aside0.mk ((by rw [hg]; exact (below_size (by repeat (first | (with_reducible first | exact HB.out | apply below_alloc | apply pw_below_drewN | apply below_drew1) | exact HB.out))) : w.heap.size ≤ gb1053)); clear HB; have HB := n0_; have BK1053 := n1_; have GW1053 := n2_; have GE1053 := n3_; clear n0_ n1_ n2_ n3_; clear hb hbox hg; have hcz6_0 : w5.cell? ⟨gb1053, 0, none⟩ = some (.int .i64 a0_0) := (blk_cell BK1053.out 0).trans rfl; have hcz6_1 : w5.cell? ⟨gb1053, 1, none⟩ = some (.slice A0_1 l0_1.length c0_1) := (blk_cell BK1053.out 1).trans rfl; have hfz6_0 := blk_frozen BK1053.out 0; have hfz6_1 := blk_frozen BK1053.out 1) | ((with_reducible refine gate_callee (f := 129) rfl ?_); refine goesL_ (some 10) rfl rfl Tryd.func129 (by kernel_rfl) rfl #[.int .i64 a0_0, .slice A1 l1.length c1] rfl (by (try simp only [List.map_toArray, List.map_cons, List.map_nil]); first | done | rfl | (simp only [List.length_drop, List.length_take]; rfl)) ?_; (with_reducible refine (spec_orNames.calls k a0_0 _ _ l1 true _ ?side1 ?side2 A3.out).mono ?_); (case side1 => repeat (first | exact (Kd.C_below HR1.out HB.out) | (with_reducible refine Kd.C_alloc ?_ _) | (with_reducible refine Kd.C_drewN ?_ _) | (with_reducible refine Kd.C_drew ?_))); (case side2 => exact HC1.out); rintro e w' ⟨rfl, ⟨nd, rfl⟩⟩; refine ⟨_, rfl, ?_⟩))
  go_loopg [14] k (fun kq v14 w' => ∃ (x14_1 : Int), v14 = .int .i64 x14_1 ∧ Aside0 (spec_orExtends.l0 kq l1 l1 (l1.length : Int) x14_1 a0_0 l0_1 = some r) ∧ Aside0 (kq ≤ k) ∧ Aside0 (w'.heap[gb1053]? = some (.cells #[.int .i64 a0_0, (.slice A0_1 l0_1.length c0_1)] 26 (0, 0))) ∧ Aside0 (Below w.heap.size w w'))
  case atStart => exact ⟨(0), (by first | rfl | (simp; done) | (simp [*]; done)), H', ⟨Nat.le_refl _⟩, ⟨by (with_reducible repeat (first | refine blk_drewN ?_ _ | refine blk_drew ?_ | refine blk_alloc ?_ _)); exact BK1053.out⟩, ⟨by repeat (first | (with_reducible first | exact HB.out | apply below_alloc | apply pw_below_drewN | apply below_drew1 | refine below_set ?_ GE1053.out) | exact HB.out)⟩⟩
  case round =>
   clear H'
   try clear c1
   try clear p2
   try clear c4
   try clear hcz6_0
   try clear hcz6_1
   try clear hfz6_0
   try clear hfz6_1
   obtain ⟨x14_1, rfl, HA, HK1, BK1053, HB⟩ := hrel
   cases gk with
   | zero => exact absurd HA.out (by simp [spec_orExtends.l0])
   | succ k1 =>
    have H := HA.out
    clear HA
    simp only [spec_orExtends.l0] at H
    by_cases c7 : x14_1 < (l1.length : Int)
    ·rw [if_pos c7] at H
     have c7b0 : decide (x14_1 < (l1.length : Int)) = true := decide_eq_true c7
     clear c7
     by_cases c8 : 0 ≤ x14_1
     ·rw [if_pos c8] at H
      have c8b0 : decide (0 ≤ x14_1) = true := decide_eq_true c8
      clear c8
      by_cases c9 : x14_1 < (l1.length : Int)
      ·rw [if_pos c9] at H
       have c9b0 : decide (x14_1 < (l1.length : Int)) = true := decide_eq_true c9
       clear c9
       replace H := Option.bind_eq_some_iff.mp H
       obtain ⟨t1056, A100, H⟩ := H
       replace H : (if x14_1 ≤ (l1.length : Int) then ((spec_orSet.f k1 (l1.take (x14_1 : Int).toNat)).bind fun t1058 => (if (Go.bits .andNot .i64 t1056 t1058) = 0 then (spec_orExtends.l0 k1 l1 l1 (l1.length : Int) (wrap64 (x14_1 + 1)) a0_0 l0_1) else (some false))) else (none)) = some r := H
       have A10 := Aside0.mk A100
       clear A100
       have c11b0 := eq_true (of_decide_eq_true (by first | (with_reducible assumption) | assumption) : 0 ≤ x14_1)
       by_cases c12 : x14_1 ≤ (l1.length : Int)
       ·rw [if_pos c12] at H
        have c12b0 := eq_true c12
        have c12b1 : decide (x14_1 ≤ (l1.length : Int)) = true := decide_eq_true c12
        clear c12
        replace H := Option.bind_eq_some_iff.mp H
        obtain ⟨t1058, A130, H⟩ := H
        replace H : (if (Go.bits .andNot .i64 t1056 t1058) = 0 then (spec_orExtends.l0 k1 l1 l1 (l1.length : Int) (wrap64 (x14_1 + 1)) a0_0 l0_1) else (some false)) = some r := H
        have A13 := Aside0.mk A130
        clear A130
        by_cases c14 : (Go.bits .andNot .i64 t1056 t1058) = 0
        ·rw [if_pos c14] at H
         have c14b0 : ((Go.bits .andNot .i64 t1056 t1058) == 0) = true := beq_iff_eq.mpr c14
         have c14b1 : ((Go.bits .andNot .i64 t1056 t1058) != 0) = false := bne_eq_false_iff_eq.mpr c14
         clear c14
         have H' := Aside0.mk H
         clear H
         have p1055 : 0 ≤ (x14_1 : Int) := of_decide_eq_true (by first | (with_reducible assumption) | assumption)
         have q1055 : x14_1 < (l1.length : Int) := of_decide_eq_true (by first | (with_reducible assumption) | assumption)
         obtain ⟨ad1055, e1055, hx1055_0⟩ := Kd.at_int HR1.out x14_1 p1055 q1055
         cases e1055
         (try replace hx1055_0 := (HB.out.cell (World.block_lt_of_cell? w _ hx1055_0)).trans hx1055_0)
         replace p1055 := eq_true p1055
         replace q1055 := eq_true q1055
         try go_wp2
         have n0_ := Aside0.mk (blk_drew BK1053.out)
         have n1_ := Aside0.mk (below_drew1 HB.out)
         clear BK1053
         clear HB
         have BK1053 := n0_
         have HB := n1_
         clear n0_ n1_
         obtain ⟨i016, hi016, _, hsz16, _⟩ := info_parts info3
         obtain ⟨hcut16, hA16, hC16⟩ := print_take_of (P := Tryd.prog) (Value.int .i64) 0 22 3 .i64 Tryd.underlying22 hi016 hsz16 (some ad1055) c1 l1 x14_1 (of_decide_eq_true (by first | (with_reducible assumption) | assumption)) (of_decide_eq_true (by first | (with_reducible assumption) | assumption)) HC1.out
         have HR1057 := Aside0.mk (Kd.C_of_reads (h1 := fun _ => rfl) (hA16 _ (Kd.reads_of_C HR1.out)))
         have HC1057 := Aside0.mk hC16
         clear hA16 hC16 hi016 hsz16
         refine start_ (n := 9) (S := fun w' => w'.cell? ⟨gb1053, 0, none⟩ = some (.int .i64 a0_0) ∧ w'.cell? ⟨gb1053, 1, none⟩ = some (.slice A0_1 l0_1.length c0_1)) (ds := []) #[F,F,F,F,F,F,F,F,F] (by kernel_rfl) rfl rfl ⟨(blk_cell BK1053.out 0).trans rfl, (blk_cell BK1053.out 1).trans rfl⟩ (fun hHeld => ?_); refine with_tabW spec_orExtends.tab6 spec_orExtends.bits6 (fun HT_ HW_ => ?_)
         generalize wr.drew = w15 at BK1053 HB HR1057 hHeld ⊢
         refine pure_ (i := 1) (N := some 20) (v := ?_) (a' := ?_) #[F,T,F,F,F,F,F,F,F] rfl rfl (any_of HT_.out (by kernel_rfl)) (fun _ _ _ h => h) (Or.inl ⟨by rfl, ?_⟩) ?_ ?_
         rotate_left;·intro w';go_simp;with_reducible rfl
         rotate_left;·simp only [Act.put, L_,M_,N_, i64_w, i32_w];rfl
         refine pure_ (i := 3) (N := some 22) (v := ?_) (a' := ?_) #[F,T,F,T,F,F,F,F,F] rfl rfl (any_of HT_.out (by kernel_rfl)) (fun _ _ _ h => h) (Or.inl ⟨by rfl, ?_⟩) ?_ ?_
         rotate_left;·intro w';go_simp;with_reducible rfl
         rotate_left;·simp only [Act.put, L_,M_,N_, i64_w, i32_w];rfl
         refine pure_ (i := 4) (N := some 23) (v := ?_) (a' := ?_) #[F,T,F,T,T,F,F,F,F] rfl rfl (any_of HT_.out (by kernel_rfl)) (fun _ _ _ h => h) (Or.inl ⟨by rfl, ?_⟩) ?_ ?_
         rotate_left;·intro w';go_simp;with_reducible rfl
         rotate_left;·simp only [Act.put, L_,M_,N_, i64_w, i32_w];rfl
         refine pure_ (i := 5) (N := some 24) (v := ?_) (a' := ?_) #[F,T,F,T,T,T,F,F,F] rfl rfl (any_of HT_.out (by kernel_rfl)) (fun _ _ _ h => h) (Or.inl ⟨by rfl, ?_⟩) ?_ ?_
         rotate_left;·intro w';go_simp;with_reducible rfl
         rotate_left;·simp only [Act.put, L_,M_,N_, i64_w, i32_w];rfl
         refine take_ (i := 0) (N := some 19) (v := ?_) (a' := ?_) #[T,T,F,T,T,T,F,F,F] rfl rfl (take_ofW HT_.out HW_.out (by kernel_rfl)) (fun _ _ _ h => h) (Or.inl ⟨by rfl, ?_⟩) hHeld ?_ ?_
         rotate_left
         ·rintro w' ⟨s0, s1⟩
          go_simp
          with_reducible rfl
         rotate_left;·simp only [Act.put, L_,M_,N_, i64_w, i32_w];rfl
         refine one_ (i := 2) (N := some 21) #[T,T,T,T,T,T,F,F,F] rfl rfl (one_of HT_.out (by kernel_rfl)) (by decide) (fun K hK => ?_)
         refine goes_ Tryd.func156 (by kernel_rfl) rfl #[.agg #[.int .i64 a0_0, .slice A0_1 l0_1.length c0_1], .int .i64 (rd l1 x14_1)] (by rfl) rfl rfl (by (try simp only [List.map_toArray, List.map_cons, List.map_nil]); first | done | rfl | (simp only [List.length_drop, List.length_take]; rfl)) ?_
         with_reducible refine (spec_orBelow.calls k1 a0_0 _ _ l0_1 (rd l1 x14_1) t1056 _ ?side1 ?side2 A10.out).mono ?_
         (case side1 => repeat (first | exact (Kd.C_below HR0_1.out HB.out) | (with_reducible refine Kd.C_alloc ?_ _) | (with_reducible refine Kd.C_drewN ?_ _) | (with_reducible refine Kd.C_drew ?_)))
         (case side2 => exact HC0_1.out)
         rintro e w17 ⟨rfl, hb⟩
         refine ⟨_, rfl, ?_⟩
         have n0_ := Aside0.mk (blk_below (g := gb1053) (o := .cells #[.int .i64 a0_0, .slice A0_1 l0_1.length c0_1] 26 (0, 0)) (by (with_reducible repeat (first | refine blk_drewN ?_ _ | refine blk_drew ?_ | refine blk_alloc ?_ _)); exact BK1053.out) hb)
         have n1_ := Aside0.mk (below_step (by repeat (first | (with_reducible first | exact HB.out | apply below_alloc | apply pw_below_drewN | apply below_drew1 | refine below_set ?_ GE1053.out) | exact HB.out)) hb)
         clear BK1053
         clear HB
         have BK1053 := n0_
         have HB := n1_
         clear n0_ n1_
         (try clear hb)
         (try clear hb2)
         (try clear hk)
         (try clear hi)
         refine hK.out _ _ ⟨(blk_cell BK1053.out 0).trans rfl, (blk_cell BK1053.out 1).trans rfl⟩ (fun hHeld => ?_)
         clear hK K
         refine norm_ (a' := ?_) ?_ ?_
         rotate_left
         ·show Act.put _ (some 21) _ = _
          simp only [Act.put, L_,M_,N_, i64_w, i32_w]
          rfl
         refine one_ (i := 6) (N := some 25) #[T,T,T,T,T,T,T,F,F] rfl rfl (one_of HT_.out (by kernel_rfl)) (by decide) (fun K hK => ?_)
         refine goes_ Tryd.func165 (by kernel_rfl) rfl #[.slice (some ad1055) (l1.take (x14_1 : Int).toNat).length c1] (by rfl) rfl rfl (by (try simp only [List.map_toArray, List.map_cons, List.map_nil]); first | done | (rw [show (l1.take (x14_1 : Int).toNat).length = x14_1.toNat from (by rw [List.length_take]; have h_ : (x14_1 : Int) ≤ (l1.length : Int) := of_decide_eq_true (by first | (with_reducible assumption) | assumption); omega)] <;> rfl) | rfl | (simp only [List.length_drop, List.length_take]; rfl)) ?_
         with_reducible refine (spec_orSet.calls k1 _ _ (l1.take (x14_1 : Int).toNat) t1058 _ ?side1 ?side2 A13.out).mono ?_
         (case side1 => repeat (first | exact (Kd.C_below HR1057.out HB.out) | (with_reducible refine Kd.C_alloc ?_ _) | (with_reducible refine Kd.C_drewN ?_ _) | (with_reducible refine Kd.C_drew ?_)))
         (case side2 => exact HC1057.out)
         rintro e w' ⟨rfl, ⟨nd, rfl⟩⟩
         refine ⟨_, rfl, ?_⟩
         refine hK.out _ _ ⟨(blk_cell BK1053.out 0).trans rfl, (blk_cell BK1053.out 1).trans rfl⟩ (fun hHeld => ?_)
         clear hK K
         refine norm_ (a' := ?_) ?_ ?_
         rotate_left
         ·show Act.put _ (some 25) _ = _
          simp only [Act.put, L_,M_,N_, i64_w, i32_w]
          rfl
         refine pure_ (i := 7) (N := some 26) (v := ?_) (a' := ?_) #[T,T,T,T,T,T,T,T,F] rfl rfl (any_of HT_.out (by kernel_rfl)) (fun _ _ _ h => h) (Or.inl ⟨by rfl, ?_⟩) ?_ ?_
         rotate_left;·intro w';go_simp;with_reducible rfl
         rotate_left;·simp only [Act.put, L_,M_,N_, i64_w, i32_w];rfl
         refine pure_ (i := 8) (N := some 27) (v := ?_) (a' := ?_) #[T,T,T,T,T,T,T,T,T] rfl rfl (any_of HT_.out (by kernel_rfl)) (fun _ _ _ h => h) (Or.inl ⟨by rfl, ?_⟩) ?_ ?_
         rotate_left;·intro w';go_simp;with_reducible rfl
         rotate_left;·simp only [Act.put, L_,M_,N_, i64_w, i32_w];rfl
         refine done_ (done_of HT_.out (by kernel_rfl)) ?_
         try go_wp2
         go_roundg k1
         case measure => have := HK1.out; omega
         case rel => exact ⟨(wrap64 (x14_1 + 1)), (by first | rfl | (simp; done) | (simp [*]; done)), H', ⟨by have := HK1.out; omega⟩, ⟨by (with_reducible repeat (first | refine blk_drewN ?_ _ | refine blk_drew ?_ | refine blk_alloc ?_ _)); exact BK1053.out⟩, ⟨by repeat (first | (with_reducible first | exact HB.out | apply below_alloc | apply pw_below_drewN | apply below_drew1 | refine below_set ?_ GE1053.out) | exact HB.out)⟩⟩
        ·rw [if_neg c14] at H
         have c14b0 : ((Go.bits .andNot .i64 t1056 t1058) == 0) = false := beq_eq_false_iff_ne.mpr c14
         have c14b1 : ((Go.bits .andNot .i64 t1056 t1058) != 0) = true := bne_iff_ne.mpr c14
         obtain rfl := Option.some.inj H
         have p1055 : 0 ≤ (x14_1 : Int) := of_decide_eq_true (by first | (with_reducible assumption) | assumption)
         have q1055 : x14_1 < (l1.length : Int) := of_decide_eq_true (by first | (with_reducible assumption) | assumption)
         obtain ⟨ad1055, e1055, hx1055_0⟩ := Kd.at_int HR1.out x14_1 p1055 q1055
         cases e1055
         (try replace hx1055_0 := (HB.out.cell (World.block_lt_of_cell? w _ hx1055_0)).trans hx1055_0)
         replace p1055 := eq_true p1055
         replace q1055 := eq_true q1055
         try go_wp2
         have n0_ := Aside0.mk (blk_drew BK1053.out)
         have n1_ := Aside0.mk (below_drew1 HB.out)
         clear BK1053
         clear HB
         have BK1053 := n0_
         have HB := n1_
         clear n0_ n1_
         obtain ⟨i019, hi019, _, hsz19, _⟩ := info_parts info3
         obtain ⟨hcut19, hA19, hC19⟩ := print_take_of (P := Tryd.prog) (Value.int .i64) 0 22 3 .i64 Tryd.underlying22 hi019 hsz19 (some ad1055) c1 l1 x14_1 (of_decide_eq_true (by first | (with_reducible assumption) | assumption)) (of_decide_eq_true (by first | (with_reducible assumption) | assumption)) HC1.out
         have HR1057 := Aside0.mk (Kd.C_of_reads (h1 := fun _ => rfl) (hA19 _ (Kd.reads_of_C HR1.out)))
         have HC1057 := Aside0.mk hC19
         clear hA19 hC19 hi019 hsz19
         refine start_ (n := 9) (S := fun w' => w'.cell? ⟨gb1053, 0, none⟩ = some (.int .i64 a0_0) ∧ w'.cell? ⟨gb1053, 1, none⟩ = some (.slice A0_1 l0_1.length c0_1)) (ds := []) #[F,F,F,F,F,F,F,F,F] (by kernel_rfl) rfl rfl ⟨(blk_cell BK1053.out 0).trans rfl, (blk_cell BK1053.out 1).trans rfl⟩ (fun hHeld => ?_); refine with_tabW spec_orExtends.tab6 spec_orExtends.bits6 (fun HT_ HW_ => ?_)
         generalize wr.drew = w18 at BK1053 HB HR1057 hHeld ⊢
         refine pure_ (i := 1) (N := some 20) (v := ?_) (a' := ?_) #[F,T,F,F,F,F,F,F,F] rfl rfl (any_of HT_.out (by kernel_rfl)) (fun _ _ _ h => h) (Or.inl ⟨by rfl, ?_⟩) ?_ ?_
         rotate_left;·intro w';go_simp;with_reducible rfl
         rotate_left;·simp only [Act.put, L_,M_,N_, i64_w, i32_w];rfl
         refine pure_ (i := 3) (N := some 22) (v := ?_) (a' := ?_) #[F,T,F,T,F,F,F,F,F] rfl rfl (any_of HT_.out (by kernel_rfl)) (fun _ _ _ h => h) (Or.inl ⟨by rfl, ?_⟩) ?_ ?_
         rotate_left;·intro w';go_simp;with_reducible rfl
         rotate_left;·simp only [Act.put, L_,M_,N_, i64_w, i32_w];rfl
         refine pure_ (i := 4) (N := some 23) (v := ?_) (a' := ?_) #[F,T,F,T,T,F,F,F,F] rfl rfl (any_of HT_.out (by kernel_rfl)) (fun _ _ _ h => h) (Or.inl ⟨by rfl, ?_⟩) ?_ ?_
         rotate_left;·intro w';go_simp;with_reducible rfl
         rotate_left;·simp only [Act.put, L_,M_,N_, i64_w, i32_w];rfl
         refine pure_ (i := 5) (N := some 24) (v := ?_) (a' := ?_) #[F,T,F,T,T,T,F,F,F] rfl rfl (any_of HT_.out (by kernel_rfl)) (fun _ _ _ h => h) (Or.inl ⟨by rfl, ?_⟩) ?_ ?_
         rotate_left;·intro w';go_simp;with_reducible rfl
         rotate_left;·simp only [Act.put, L_,M_,N_, i64_w, i32_w];rfl
         refine take_ (i := 0) (N := some 19) (v := ?_) (a' := ?_) #[T,T,F,T,T,T,F,F,F] rfl rfl (take_ofW HT_.out HW_.out (by kernel_rfl)) (fun _ _ _ h => h) (Or.inl ⟨by rfl, ?_⟩) hHeld ?_ ?_
         rotate_left
         ·rintro w' ⟨s0, s1⟩
          go_simp
          with_reducible rfl
         rotate_left;·simp only [Act.put, L_,M_,N_, i64_w, i32_w];rfl
         refine one_ (i := 2) (N := some 21) #[T,T,T,T,T,T,F,F,F] rfl rfl (one_of HT_.out (by kernel_rfl)) (by decide) (fun K hK => ?_)
         refine goes_ Tryd.func156 (by kernel_rfl) rfl #[.agg #[.int .i64 a0_0, .slice A0_1 l0_1.length c0_1], .int .i64 (rd l1 x14_1)] (by rfl) rfl rfl (by (try simp only [List.map_toArray, List.map_cons, List.map_nil]); first | done | rfl | (simp only [List.length_drop, List.length_take]; rfl)) ?_
         with_reducible refine (spec_orBelow.calls k1 a0_0 _ _ l0_1 (rd l1 x14_1) t1056 _ ?side1 ?side2 A10.out).mono ?_
         (case side1 => repeat (first | exact (Kd.C_below HR0_1.out HB.out) | (with_reducible refine Kd.C_alloc ?_ _) | (with_reducible refine Kd.C_drewN ?_ _) | (with_reducible refine Kd.C_drew ?_)))
         (case side2 => exact HC0_1.out)
         rintro e w20 ⟨rfl, hb⟩
         refine ⟨_, rfl, ?_⟩
         have n0_ := Aside0.mk (blk_below (g := gb1053) (o := .cells #[.int .i64 a0_0, .slice A0_1 l0_1.length c0_1] 26 (0, 0)) (by (with_reducible repeat (first | refine blk_drewN ?_ _ | refine blk_drew ?_ | refine blk_alloc ?_ _)); exact BK1053.out) hb)
         have n1_ := Aside0.mk (below_step (by repeat (first | (with_reducible first | exact HB.out | apply below_alloc | apply pw_below_drewN | apply below_drew1 | refine below_set ?_ GE1053.out) | exact HB.out)) hb)
         clear BK1053
         clear HB
         have BK1053 := n0_
         have HB := n1_
         clear n0_ n1_
         (try clear hb)
         (try clear hb2)
         (try clear hk)
         (try clear hi)
         refine hK.out _ _ ⟨(blk_cell BK1053.out 0).trans rfl, (blk_cell BK1053.out 1).trans rfl⟩ (fun hHeld => ?_)
         clear hK K
         refine norm_ (a' := ?_) ?_ ?_
         rotate_left
         ·show Act.put _ (some 21) _ = _
          simp only [Act.put, L_,M_,N_, i64_w, i32_w]
          rfl
         refine one_ (i := 6) (N := some 25) #[T,T,T,T,T,T,T,F,F] rfl rfl (one_of HT_.out (by kernel_rfl)) (by decide) (fun K hK => ?_)
         refine goes_ Tryd.func165 (by kernel_rfl) rfl #[.slice (some ad1055) (l1.take (x14_1 : Int).toNat).length c1] (by rfl) rfl rfl (by (try simp only [List.map_toArray, List.map_cons, List.map_nil]); first | done | (rw [show (l1.take (x14_1 : Int).toNat).length = x14_1.toNat from (by rw [List.length_take]; have h_ : (x14_1 : Int) ≤ (l1.length : Int) := of_decide_eq_true (by first | (with_reducible assumption) | assumption); omega)] <;> rfl) | rfl | (simp only [List.length_drop, List.length_take]; rfl)) ?_
         with_reducible refine (spec_orSet.calls k1 _ _ (l1.take (x14_1 : Int).toNat) t1058 _ ?side1 ?side2 A13.out).mono ?_
         (case side1 => repeat (first | exact (Kd.C_below HR1057.out HB.out) | (with_reducible refine Kd.C_alloc ?_ _) | (with_reducible refine Kd.C_drewN ?_ _) | (with_reducible refine Kd.C_drew ?_)))
         (case side2 => exact HC1057.out)
         rintro e w' ⟨rfl, ⟨nd, rfl⟩⟩
         refine ⟨_, rfl, ?_⟩
         refine hK.out _ _ ⟨(blk_cell BK1053.out 0).trans rfl, (blk_cell BK1053.out 1).trans rfl⟩ (fun hHeld => ?_)
         clear hK K
         refine norm_ (a' := ?_) ?_ ?_
         rotate_left
         ·show Act.put _ (some 25) _ = _
          simp only [Act.put, L_,M_,N_, i64_w, i32_w]
          rfl
         refine pure_ (i := 7) (N := some 26) (v := ?_) (a' := ?_) #[T,T,T,T,T,T,T,T,F] rfl rfl (any_of HT_.out (by kernel_rfl)) (fun _ _ _ h => h) (Or.inl ⟨by rfl, ?_⟩) ?_ ?_
         rotate_left;·intro w';go_simp;with_reducible rfl
         rotate_left;·simp only [Act.put, L_,M_,N_, i64_w, i32_w];rfl
         refine pure_ (i := 8) (N := some 27) (v := ?_) (a' := ?_) #[T,T,T,T,T,T,T,T,T] rfl rfl (any_of HT_.out (by kernel_rfl)) (fun _ _ _ h => h) (Or.inl ⟨by rfl, ?_⟩) ?_ ?_
         rotate_left;·intro w';go_simp;with_reducible rfl
         rotate_left;·simp only [Act.put, L_,M_,N_, i64_w, i32_w];rfl
         refine done_ (done_of HT_.out (by kernel_rfl)) ?_
         try go_wp2
         go_ret
         exact ⟨by first | rfl | (simp [errW_none, errW_some] <;> rfl) | (simp [*, errW_none, errW_some] <;> rfl), by repeat (first | (with_reducible first | exact HB.out | apply below_alloc | apply pw_below_drewN | apply below_drew1 | refine below_set ?_ GE1053.out) | exact HB.out)⟩
       ·rw [if_neg c12] at H
        exact absurd H (by simp)
      ·rw [if_neg c9] at H
       exact absurd H (by simp)
     ·rw [if_neg c8] at H
      exact absurd H (by simp)
    ·rw [if_neg c7] at H
     have c7b0 : decide (x14_1 < (l1.length : Int)) = false := decide_eq_false c7
     clear c7
     obtain rfl := Option.some.inj H
     go_wp2
     go_ret
     exact ⟨by first | rfl | (simp [errW_none, errW_some] <;> rfl) | (simp [*, errW_none, errW_some] <;> rfl), by repeat (first | (with_reducible first | exact HB.out | apply below_alloc | apply pw_below_drewN | apply below_drew1 | refine below_set ?_ GE1053.out) | exact HB.out)⟩
 ·replace c4 := Bool.eq_false_iff.mpr c4
  subst c4
  have H1 : (some false) = some r := by rw [if_neg (show ¬ (false = true) by decide)] at H; exact H
  clear H
  have H := H1
  clear H1
  obtain rfl := Option.some.inj H
  go_enter Tryd.func128, Tryd.ntmps128
  go_wp2_with (first | ((with_reducible refine gate_dst (N := 2) rfl ?_); refine box_event ?hg (N := 2) ?hd (cs := #[.int .i64 a0_0, .slice A0_1 l0_1.length c0_1]) (t := 26) ?hr ?_; (case hd => rfl); (case hg => rfl); (case hr => first | (go_simp; done) | (go_simp; rfl)); intro gb1053 hg w21 hbox hb; have n0_ := Aside0.mk (below_step (by repeat (first | (with_reducible first | exact HB.out | apply below_alloc | apply pw_below_drewN | apply below_drew1) | exact HB.out)) hb); have n1_ := Aside0.mk (hbox); have n2_ := Aside0.mk ((by rw [hg]; exact (below_size (by repeat (first | (with_reducible first | exact HB.out | apply below_alloc | apply pw_below_drewN | apply below_drew1) | exact HB.out))) : w.heap.size ≤ gb1053)); have n3_ := Aside0.mk ((by rw [hg]; exact (below_size (by repeat (first | (with_reducible first | exact HB.out | apply below_alloc | apply pw_below_drewN | apply below_drew1) | exact HB.out))) : w.heap.size ≤ gb1053)); clear HB; have HB := n0_; have BK1053 := n1_; have GW1053 := n2_; have GE1053 := n3_; clear n0_ n1_ n2_ n3_; clear hb hbox hg; have hcz22_0 : w21.cell? ⟨gb1053, 0, none⟩ = some (.int .i64 a0_0) := (blk_cell BK1053.out 0).trans rfl; have hcz22_1 : w21.cell? ⟨gb1053, 1, none⟩ = some (.slice A0_1 l0_1.length c0_1) := (blk_cell BK1053.out 1).trans rfl; have hfz22_0 := blk_frozen BK1053.out 0; have hfz22_1 := blk_frozen BK1053.out 1) | ((with_reducible refine gate_callee (f := 129) rfl ?_); refine goesL_ (some 10) rfl rfl Tryd.func129 (by kernel_rfl) rfl #[.int .i64 a0_0, .slice A1 l1.length c1] rfl (by (try simp only [List.map_toArray, List.map_cons, List.map_nil]); first | done | rfl | (simp only [List.length_drop, List.length_take]; rfl)) ?_; (with_reducible refine (spec_orNames.calls k a0_0 _ _ l1 false _ ?side1 ?side2 A3.out).mono ?_); (case side1 => repeat (first | exact (Kd.C_below HR1.out HB.out) | (with_reducible refine Kd.C_alloc ?_ _) | (with_reducible refine Kd.C_drewN ?_ _) | (with_reducible refine Kd.C_drew ?_))); (case side2 => exact HC1.out); rintro e w' ⟨rfl, ⟨nd, rfl⟩⟩; refine ⟨_, rfl, ?_⟩))
  go_ret
  exact ⟨by first | rfl | (simp [errW_none, errW_some] <;> rfl) | (simp [*, errW_none, errW_some] <;> rfl), by repeat (first | (with_reducible first | exact HB.out | apply below_alloc | apply pw_below_drewN | apply below_drew1 | refine below_set ?_ GE1053.out) | exact HB.out)⟩
def spec_IsExtension.f (k : Nat) (a0_0 : Int) (l0_1 : List Int) (l1 : List Int) : Option (Bool × Bool) := (spec_orGood.f k a0_0 l0_1).bind fun t1060 => (if t1060 = true then ((spec_orExtends.f k a0_0 l0_1 l1).bind fun t1061 => (some (t1061, true))) else (some (false, false)))
set_option maxHeartbeats 8000000 in
set_option maxRecDepth 100000 in
theorem spec_IsExtension.calls (k : Nat) (a0_0 : Int) (A0_1 : Option Addr) (c0_1 : Nat) (l0_1 : List Int) (A1 : Option Addr) (c1 : Nat) (l1 : List Int) (r1 : Bool) (r2 : Bool) (w : World) (hr0_1 : Kd.C (Kd.int .i64) w A0_1 l0_1.length l0_1) (hc0_1 : l0_1.length ≤ c0_1) (hr1 : Kd.C (Kd.int .i64) w A1 l1.length l1) (hc1 : l1.length ≤ c1) (h : spec_IsExtension.f k a0_0 l0_1 l1 = some (r1, r2)) :
 Calls Tryd.prog 56 #[.agg #[.int .i64 a0_0, .slice A0_1 l0_1.length c0_1], .slice A1 l1.length c1] w fun e w' => e = .returned (.tuple #[.bool r1, .bool r2]) ∧ Below w.heap.size w w' := by
 have hu26 := Tryd.underlying26
 have HR0_1 := Aside0.mk hr0_1
 have HC0_1 := Aside0.mk hc0_1
 clear hr0_1 hc0_1
 have HR1 := Aside0.mk hr1
 have HC1 := Aside0.mk hc1
 clear hr1 hc1
 have HB := Aside0.mk (Below.refl w.heap.size w)
 have H : ((spec_orGood.f k a0_0 l0_1).bind fun t1060 => (if t1060 = true then ((spec_orExtends.f k a0_0 l0_1 l1).bind fun t1061 => (some (t1061, true))) else (some (false, false)))) = some (r1, r2) := h
 clear h
 replace H := Option.bind_eq_some_iff.mp H
 obtain ⟨t1060, A30, H⟩ := H
 replace H : (if t1060 = true then ((spec_orExtends.f k a0_0 l0_1 l1).bind fun t1061 => (some (t1061, true))) else (some (false, false))) = some (r1, r2) := H
 have A3 := Aside0.mk A30
 clear A30
 by_cases c4 : t1060 = true
 ·subst c4
  have H1 : ((spec_orExtends.f k a0_0 l0_1 l1).bind fun t1061 => (some (t1061, true))) = some (r1, r2) := by rw [if_pos rfl] at H; exact H
  clear H
  have H := H1
  clear H1
  replace H := Option.bind_eq_some_iff.mp H
  obtain ⟨t1061, A50, H⟩ := H
  replace H : (some (t1061, true)) = some (r1, r2) := H
  have A5 := Aside0.mk A50
  clear A50
  simp only [Option.some.injEq, Prod.mk.injEq] at H
  obtain ⟨rfl, rfl⟩ := H
  go_enter Tryd.func56, Tryd.ntmps56
  go_wp2_with (first | ((with_reducible refine gate_dst (N := 2) rfl ?_); refine box_event ?hg (N := 2) ?hd (cs := #[.int .i64 a0_0, .slice A0_1 l0_1.length c0_1]) (t := 26) ?hr ?_; (case hd => rfl); (case hg => rfl); (case hr => first | (go_simp; done) | (go_simp; rfl)); intro gb1059 hg w6 hbox hb; have n0_ := Aside0.mk (below_step (by repeat (first | (with_reducible first | exact HB.out | apply below_alloc | apply pw_below_drewN | apply below_drew1) | exact HB.out)) hb); have n1_ := Aside0.mk (hbox); have n2_ := Aside0.mk ((by rw [hg]; exact (below_size (by repeat (first | (with_reducible first | exact HB.out | apply below_alloc | apply pw_below_drewN | apply below_drew1) | exact HB.out))) : w.heap.size ≤ gb1059)); have n3_ := Aside0.mk ((by rw [hg]; exact (below_size (by repeat (first | (with_reducible first | exact HB.out | apply below_alloc | apply pw_below_drewN | apply below_drew1) | exact HB.out))) : w.heap.size ≤ gb1059)); clear HB; have HB := n0_; have BK1059 := n1_; have GW1059 := n2_; have GE1059 := n3_; clear n0_ n1_ n2_ n3_; clear hb hbox hg; have hcz7_0 : w6.cell? ⟨gb1059, 0, none⟩ = some (.int .i64 a0_0) := (blk_cell BK1059.out 0).trans rfl; have hcz7_1 : w6.cell? ⟨gb1059, 1, none⟩ = some (.slice A0_1 l0_1.length c0_1) := (blk_cell BK1059.out 1).trans rfl; have hfz7_0 := blk_frozen BK1059.out 0; have hfz7_1 := blk_frozen BK1059.out 1) | ((with_reducible refine gate_callee (f := 83) rfl ?_); refine goesL_ (some 7) rfl rfl Tryd.func83 (by kernel_rfl) rfl #[.agg #[.int .i64 a0_0, .slice A0_1 l0_1.length c0_1]] rfl (by (try simp only [List.map_toArray, List.map_cons, List.map_nil]); first | done | rfl | (simp only [List.length_drop, List.length_take]; rfl)) ?_; (with_reducible refine (spec_orGood.calls k a0_0 _ _ l0_1 true _ ?side1 ?side2 A3.out).mono ?_); (case side1 => repeat (first | exact (Kd.C_below HR0_1.out HB.out) | (with_reducible refine Kd.C_alloc ?_ _) | (with_reducible refine Kd.C_drewN ?_ _) | (with_reducible refine Kd.C_drew ?_))); (case side2 => exact HC0_1.out); rintro e w8 ⟨rfl, hb⟩; refine ⟨_, rfl, ?_⟩; have n0_ := Aside0.mk (blk_below (g := gb1059) (o := .cells #[.int .i64 a0_0, .slice A0_1 l0_1.length c0_1] 26 (0, 0)) (by (with_reducible repeat (first | refine blk_drewN ?_ _ | refine blk_drew ?_ | refine blk_alloc ?_ _)); exact BK1059.out) hb); have n1_ := Aside0.mk (below_step (by repeat (first | (with_reducible first | exact HB.out | apply below_alloc | apply pw_below_drewN | apply below_drew1 | refine below_set ?_ GE1059.out) | exact HB.out)) hb); clear BK1059; clear HB; have BK1059 := n0_; have HB := n1_; clear n0_ n1_; (try clear hb); (try clear hb2); (try clear hk); (try clear hi); have hcz9_0 : w8.cell? ⟨gb1059, 0, none⟩ = some (.int .i64 a0_0) := (blk_cell BK1059.out 0).trans rfl; have hcz9_1 : w8.cell? ⟨gb1059, 1, none⟩ = some (.slice A0_1 l0_1.length c0_1) := (blk_cell BK1059.out 1).trans rfl; have hfz9_0 := blk_frozen BK1059.out 0; have hfz9_1 := blk_frozen BK1059.out 1) | ((with_reducible refine gate_callee (f := 128) rfl ?_); refine goesL_ (some 11) rfl rfl Tryd.func128 (by kernel_rfl) rfl #[.agg #[.int .i64 a0_0, .slice A0_1 l0_1.length c0_1], .slice A1 l1.length c1] rfl (by (try simp only [List.map_toArray, List.map_cons, List.map_nil]); first | done | rfl | (simp only [List.length_drop, List.length_take]; rfl)) ?_; (with_reducible refine (spec_orExtends.calls k a0_0 _ _ l0_1 _ _ l1 t1061 _ ?side1 ?side2 ?side3 ?side4 A5.out).mono ?_); (case side1 => repeat (first | exact (Kd.C_below HR0_1.out HB.out) | (with_reducible refine Kd.C_alloc ?_ _) | (with_reducible refine Kd.C_drewN ?_ _) | (with_reducible refine Kd.C_drew ?_))); (case side2 => exact HC0_1.out); (case side3 => repeat (first | exact (Kd.C_below HR1.out HB.out) | (with_reducible refine Kd.C_alloc ?_ _) | (with_reducible refine Kd.C_drewN ?_ _) | (with_reducible refine Kd.C_drew ?_))); (case side4 => exact HC1.out); rintro e w10 ⟨rfl, hb⟩; refine ⟨_, rfl, ?_⟩; have n0_ := Aside0.mk (blk_below (g := gb1059) (o := .cells #[.int .i64 a0_0, .slice A0_1 l0_1.length c0_1] 26 (0, 0)) (by (with_reducible repeat (first | refine blk_drewN ?_ _ | refine blk_drew ?_ | refine blk_alloc ?_ _)); exact BK1059.out) hb); have n1_ := Aside0.mk (below_step (by repeat (first | (with_reducible first | exact HB.out | apply below_alloc | apply pw_below_drewN | apply below_drew1 | refine below_set ?_ GE1059.out) | exact HB.out)) hb); clear BK1059; clear HB; have BK1059 := n0_; have HB := n1_; clear n0_ n1_; (try clear hb); (try clear hb2); (try clear hk); (try clear hi)))
  go_ret2
  exact ⟨by first | rfl | (simp [errW_none, errW_some] <;> rfl) | (simp [*, errW_none, errW_some] <;> rfl), by repeat (first | (with_reducible first | exact HB.out | apply below_alloc | apply pw_below_drewN | apply below_drew1 | refine below_set ?_ GE1059.out) | exact HB.out)⟩
 ·replace c4 := Bool.eq_false_iff.mpr c4
  subst c4
  have H1 : (some (false, false)) = some (r1, r2) := by rw [if_neg (show ¬ (false = true) by decide)] at H; exact H
  clear H
  have H := H1
  clear H1
  simp only [Option.some.injEq, Prod.mk.injEq] at H
  obtain ⟨rfl, rfl⟩ := H
  go_enter Tryd.func56, Tryd.ntmps56
  go_wp2_with (first | ((with_reducible refine gate_dst (N := 2) rfl ?_); refine box_event ?hg (N := 2) ?hd (cs := #[.int .i64 a0_0, .slice A0_1 l0_1.length c0_1]) (t := 26) ?hr ?_; (case hd => rfl); (case hg => rfl); (case hr => first | (go_simp; done) | (go_simp; rfl)); intro gb1059 hg w11 hbox hb; have n0_ := Aside0.mk (below_step (by repeat (first | (with_reducible first | exact HB.out | apply below_alloc | apply pw_below_drewN | apply below_drew1) | exact HB.out)) hb); have n1_ := Aside0.mk (hbox); have n2_ := Aside0.mk ((by rw [hg]; exact (below_size (by repeat (first | (with_reducible first | exact HB.out | apply below_alloc | apply pw_below_drewN | apply below_drew1) | exact HB.out))) : w.heap.size ≤ gb1059)); have n3_ := Aside0.mk ((by rw [hg]; exact (below_size (by repeat (first | (with_reducible first | exact HB.out | apply below_alloc | apply pw_below_drewN | apply below_drew1) | exact HB.out))) : w.heap.size ≤ gb1059)); clear HB; have HB := n0_; have BK1059 := n1_; have GW1059 := n2_; have GE1059 := n3_; clear n0_ n1_ n2_ n3_; clear hb hbox hg; have hcz12_0 : w11.cell? ⟨gb1059, 0, none⟩ = some (.int .i64 a0_0) := (blk_cell BK1059.out 0).trans rfl; have hcz12_1 : w11.cell? ⟨gb1059, 1, none⟩ = some (.slice A0_1 l0_1.length c0_1) := (blk_cell BK1059.out 1).trans rfl; have hfz12_0 := blk_frozen BK1059.out 0; have hfz12_1 := blk_frozen BK1059.out 1) | ((with_reducible refine gate_callee (f := 83) rfl ?_); refine goesL_ (some 7) rfl rfl Tryd.func83 (by kernel_rfl) rfl #[.agg #[.int .i64 a0_0, .slice A0_1 l0_1.length c0_1]] rfl (by (try simp only [List.map_toArray, List.map_cons, List.map_nil]); first | done | rfl | (simp only [List.length_drop, List.length_take]; rfl)) ?_; (with_reducible refine (spec_orGood.calls k a0_0 _ _ l0_1 false _ ?side1 ?side2 A3.out).mono ?_); (case side1 => repeat (first | exact (Kd.C_below HR0_1.out HB.out) | (with_reducible refine Kd.C_alloc ?_ _) | (with_reducible refine Kd.C_drewN ?_ _) | (with_reducible refine Kd.C_drew ?_))); (case side2 => exact HC0_1.out); rintro e w13 ⟨rfl, hb⟩; refine ⟨_, rfl, ?_⟩; have n0_ := Aside0.mk (blk_below (g := gb1059) (o := .cells #[.int .i64 a0_0, .slice A0_1 l0_1.length c0_1] 26 (0, 0)) (by (with_reducible repeat (first | refine blk_drewN ?_ _ | refine blk_drew ?_ | refine blk_alloc ?_ _)); exact BK1059.out) hb); have n1_ := Aside0.mk (below_step (by repeat (first | (with_reducible first | exact HB.out | apply below_alloc | apply pw_below_drewN | apply below_drew1 | refine below_set ?_ GE1059.out) | exact HB.out)) hb); clear BK1059; clear HB; have BK1059 := n0_; have HB := n1_; clear n0_ n1_; (try clear hb); (try clear hb2); (try clear hk); (try clear hi)))
  go_ret2
  exact ⟨by first | rfl | (simp [errW_none, errW_some] <;> rfl) | (simp [*, errW_none, errW_some] <;> rfl), by repeat (first | (with_reducible first | exact HB.out | apply below_alloc | apply pw_below_drewN | apply below_drew1 | refine below_set ?_ GE1059.out) | exact HB.out)⟩
mutual
def laws_pLess.l0 : Nat → List Int → List Int → Int → Option (Bool)
 | 0, _, _, _ => none
 | k + 1, x0, x1, x5 => if x5 < (x0.length : Int) then (laws_pLess.j1 k x0 x1 x5 (decide (x5 < (x1.length : Int)))) else (laws_pLess.j1 k x0 x1 x5 false)
def laws_pLess.j1 : Nat → List Int → List Int → Int → Bool → Option (Bool)
 | 0, _, _, _, _ => none
 | k + 1, x0, x1, x5, x15 => if x15 = true then (if 0 ≤ x5 then (if x5 < (x0.length : Int) then (if x5 < (x1.length : Int) then (if (rd x0 x5) = (rd x1 x5) then (laws_pLess.l0 k x0 x1 (wrap64 (x5 + 1))) else (some (decide ((rd x0 x5) < (rd x1 x5))))) else (none)) else (none)) else (none)) else (some (decide ((x0.length : Int) < (x1.length : Int))))
end
def laws_pLess.f (k : Nat) (l0 : List Int) (l1 : List Int) : Option (Bool) := laws_pLess.l0 k l0 l1 0
set_option maxHeartbeats 8000000 in
set_option maxRecDepth 100000 in
theorem laws_pLess.calls (k : Nat) (A0 : Option Addr) (c0 : Nat) (l0 : List Int) (A1 : Option Addr) (c1 : Nat) (l1 : List Int) (r : Bool) (w : World) (hr0 : Kd.C (Kd.int .i64) w A0 l0.length l0) (hc0 : l0.length ≤ c0) (hr1 : Kd.C (Kd.int .i64) w A1 l1.length l1) (hc1 : l1.length ≤ c1) (h : laws_pLess.f k l0 l1 = some r) :
 Calls Tryd.prog 57 #[.slice A0 l0.length c0, .slice A1 l1.length c1] w fun e w' => e = .returned (.bool r) ∧ Drawn0 w w' := by
 have HR0 := Aside0.mk hr0
 have HC0 := Aside0.mk hc0
 clear hr0 hc0
 have HR1 := Aside0.mk hr1
 have HC1 := Aside0.mk hc1
 clear hr1 hc1
 have H : (laws_pLess.l0 k l0 l1 0) = some r := h
 clear h
 have H' := Aside0.mk H
 clear H
 go_enter Tryd.func57, Tryd.ntmps57
 go_wp2
 repeat (go_quiet (fail); try go_wp2)
 go_loopg [5] k (fun kq v5 w' => ∃ (x5_1 : Int), v5 = .int .i64 x5_1 ∧ Aside0 (laws_pLess.l0 kq l0 l1 x5_1 = some r) ∧ Aside0 (kq ≤ k) ∧ Drawn0 w w')
 case atStart => exact ⟨(0), (by first | rfl | (simp; done) | (simp [*]; done)), H', ⟨Nat.le_refl _⟩, by repeat (first | exact Drawn0.refl _ | apply Drawn0.step)⟩
 case round =>
  clear H'
  try clear c1
  try clear p2
  obtain ⟨x5_1, rfl, HA, HK1, ⟨m1, rfl⟩⟩ := hrel
  cases gk with
  | zero => exact absurd HA.out (by simp [laws_pLess.l0])
  | succ k1 =>
   have H := HA.out
   clear HA
   simp only [laws_pLess.l0] at H
   have HC3 := Aside0.mk H
   clear H
   go_upto_region 2 with (fail)
   repeat (go_quiet (fail); go_upto_region 2 with (fail))
   go_cut [15] (fun v15 wc => ∃ (kq : Nat) (x15_2 : Bool), v15 = .bool x15_2 ∧ Aside0 (laws_pLess.j1 kq l0 l1 x5_1 x15_2 = some r) ∧ Aside0 (kq ≤ k1) ∧ Drawn0 w wc)
   case first =>
    have H := HC3.out
    clear HC3
    by_cases c4 : x5_1 < (l0.length : Int)
    ·rw [if_pos c4] at H
     have c4b0 : decide (x5_1 < (l0.length : Int)) = true := decide_eq_true c4
     clear c4
     (first | rw [c4b0] | (simp only [i64_w, i32_w]; rw [c4b0]) | skip)
     have H' := Aside0.mk H
     clear H
     go_wp2
     repeat (go_quiet (fail); try go_wp2)
     go_meet
     case rel => exact ⟨_, (decide (x5_1 < (l1.length : Int))), (by first | rfl | (simp; done) | (simp [*]; done)), H', ⟨by have := HK1.out; first | omega | exact Nat.le_refl _⟩, by repeat (first | exact Drawn0.refl _ | apply Drawn0.step)⟩
    ·rw [if_neg c4] at H
     have c4b0 : decide (x5_1 < (l0.length : Int)) = false := decide_eq_false c4
     clear c4
     (first | rw [c4b0] | (simp only [i64_w, i32_w]; rw [c4b0]) | skip)
     have H' := Aside0.mk H
     clear H
     go_wp2
     repeat (go_quiet (fail); try go_wp2)
     go_meet
     case rel => exact ⟨_, (false), (by first | rfl | (simp; done) | (simp [*]; done)), H', ⟨by have := HK1.out; first | omega | exact Nat.le_refl _⟩, by repeat (first | exact Drawn0.refl _ | apply Drawn0.step)⟩
   case rest =>
    clear HC3
    try clear c1
    try clear p2
    try clear c4
    try clear c4b0
    try clear p2
    obtain ⟨kq, x15_2, rfl, HA, HJ2, ⟨mc2, rfl⟩⟩ := hcut
    cases kq with
    | zero => exact absurd HA.out (by simp [laws_pLess.j1])
    | succ kj2 =>
     have H := HA.out
     clear HA
     simp only [laws_pLess.j1] at H
     by_cases c5 : x15_2 = true
     ·subst c5
      have H1 : (if 0 ≤ x5_1 then (if x5_1 < (l0.length : Int) then (if x5_1 < (l1.length : Int) then (if (rd l0 x5_1) = (rd l1 x5_1) then (laws_pLess.l0 kj2 l0 l1 (wrap64 (x5_1 + 1))) else (some (decide ((rd l0 x5_1) < (rd l1 x5_1))))) else (none)) else (none)) else (none)) = some r := by rw [if_pos rfl] at H; exact H
      clear H
      have H := H1
      clear H1
      by_cases c6 : 0 ≤ x5_1
      ·rw [if_pos c6] at H
       have c6b0 : decide (0 ≤ x5_1) = true := decide_eq_true c6
       clear c6
       by_cases c7 : x5_1 < (l0.length : Int)
       ·rw [if_pos c7] at H
        have c7b0 : decide (x5_1 < (l0.length : Int)) = true := decide_eq_true c7
        clear c7
        by_cases c8 : x5_1 < (l1.length : Int)
        ·rw [if_pos c8] at H
         have c8b0 : decide (x5_1 < (l1.length : Int)) = true := decide_eq_true c8
         clear c8
         by_cases c9 : (rd l0 x5_1) = (rd l1 x5_1)
         ·rw [if_pos c9] at H
          have c9b0 : ((rd l0 x5_1) == (rd l1 x5_1)) = true := beq_iff_eq.mpr c9
          have c9b1 : ((rd l0 x5_1) != (rd l1 x5_1)) = false := bne_eq_false_iff_eq.mpr c9
          clear c9
          have H' := Aside0.mk H
          clear H
          have p1062 : 0 ≤ (x5_1 : Int) := of_decide_eq_true (by first | (with_reducible assumption) | assumption)
          have q1062 : x5_1 < (l0.length : Int) := of_decide_eq_true (by first | (with_reducible assumption) | assumption)
          obtain ⟨ad1062, e1062, hx1062_0⟩ := Kd.at_int HR0.out x5_1 p1062 q1062
          cases e1062
          replace p1062 := eq_true p1062
          replace q1062 := eq_true q1062
          have p1063 : 0 ≤ (x5_1 : Int) := of_decide_eq_true (by first | (with_reducible assumption) | assumption)
          have q1063 : x5_1 < (l1.length : Int) := of_decide_eq_true (by first | (with_reducible assumption) | assumption)
          obtain ⟨ad1063, e1063, hx1063_0⟩ := Kd.at_int HR1.out x5_1 p1063 q1063
          cases e1063
          replace p1063 := eq_true p1063
          replace q1063 := eq_true q1063
          go_wp2
          repeat (go_quiet (fail); try go_wp2)
          go_roundg kj2
          case measure => have := HK1.out; have := HJ2.out; omega
          case rel => exact ⟨(wrap64 (x5_1 + 1)), (by first | rfl | (simp; done) | (simp [*]; done)), H', ⟨by have := HK1.out; have := HJ2.out; omega⟩, by repeat (first | exact Drawn0.refl _ | apply Drawn0.step)⟩
         ·rw [if_neg c9] at H
          have c9b0 : ((rd l0 x5_1) == (rd l1 x5_1)) = false := beq_eq_false_iff_ne.mpr c9
          have c9b1 : ((rd l0 x5_1) != (rd l1 x5_1)) = true := bne_iff_ne.mpr c9
          obtain rfl := Option.some.inj H
          have p1062 : 0 ≤ (x5_1 : Int) := of_decide_eq_true (by first | (with_reducible assumption) | assumption)
          have q1062 : x5_1 < (l0.length : Int) := of_decide_eq_true (by first | (with_reducible assumption) | assumption)
          obtain ⟨ad1062, e1062, hx1062_0⟩ := Kd.at_int HR0.out x5_1 p1062 q1062
          cases e1062
          replace p1062 := eq_true p1062
          replace q1062 := eq_true q1062
          have p1063 : 0 ≤ (x5_1 : Int) := of_decide_eq_true (by first | (with_reducible assumption) | assumption)
          have q1063 : x5_1 < (l1.length : Int) := of_decide_eq_true (by first | (with_reducible assumption) | assumption)
          obtain ⟨ad1063, e1063, hx1063_0⟩ := Kd.at_int HR1.out x5_1 p1063 q1063
          cases e1063
          replace p1063 := eq_true p1063
          replace q1063 := eq_true q1063
          have p1064 : 0 ≤ (x5_1 : Int) := of_decide_eq_true (by first | (with_reducible assumption) | assumption)
          have q1064 : x5_1 < (l0.length : Int) := of_decide_eq_true (by first | (with_reducible assumption) | assumption)
          obtain ⟨ad1064, e1064, hx1064_0⟩ := Kd.at_int HR0.out x5_1 p1064 q1064
          obtain rfl : ad1062 = ad1064 := (by injection e1064)
          replace p1064 := eq_true p1064
          replace q1064 := eq_true q1064
          have p1065 : 0 ≤ (x5_1 : Int) := of_decide_eq_true (by first | (with_reducible assumption) | assumption)
          have q1065 : x5_1 < (l1.length : Int) := of_decide_eq_true (by first | (with_reducible assumption) | assumption)
          obtain ⟨ad1065, e1065, hx1065_0⟩ := Kd.at_int HR1.out x5_1 p1065 q1065
          obtain rfl : ad1063 = ad1065 := (by injection e1065)
          replace p1065 := eq_true p1065
          replace q1065 := eq_true q1065
          go_wp2
          repeat (go_quiet (fail); try go_wp2)
          go_ret
          exact ⟨by first | rfl | (simp; done) | (simp [*]; done), by repeat (first | exact Drawn0.refl _ | apply Drawn0.step)⟩
        ·rw [if_neg c8] at H
         exact absurd H (by simp)
       ·rw [if_neg c7] at H
        exact absurd H (by simp)
      ·rw [if_neg c6] at H
       exact absurd H (by simp)
     ·replace c5 := Bool.eq_false_iff.mpr c5
      subst c5
      have H1 : (some (decide ((l0.length : Int) < (l1.length : Int)))) = some r := by rw [if_neg (show ¬ (false = true) by decide)] at H; exact H
      clear H
      have H := H1
      clear H1
      obtain rfl := Option.some.inj H
      go_wp2
      repeat (go_quiet (fail); try go_wp2)
      go_ret
      exact ⟨by first | rfl | (simp; done) | (simp [*]; done), by repeat (first | exact Drawn0.refl _ | apply Drawn0.step)⟩
end Go.Proofs.YtjdkcafpgebjfaaDoor.P
namespace Go.Proofs.YtjdkcafpgebjfaaDoor.P
open Bool renaming true → T, false → F
open List renaming setIfInBounds_toArray → L_, set_cons_zero → M_, set_cons_succ → N_
open Go.RowKit Go.Proofs.YtjdkcafpgebjfaaDoorW.PrintWords Go.Proofs.YtjdkcafpgebjfaaDoorW.PrintLast Go.Proofs.YtjdkcafpgebjfaaDoorW.PrintMore
attribute [local go_sem] max2_int min2_int max_two min_two max_three min_three max_four min_four
set_option linter.unusedVariables false
set_option linter.unusedSimpArgs false
attribute [local go_sem] fldOrder_0 fldOrder_1
mutual
def laws_FnExtensionsAccepted.j0 : Nat → List Int → Bool → Bool → Int → List Int → Option (Bool)
 | 0, _, _, _, _, _ => none
 | k + 1, x6, x7, x44, x1075000, x1075001 => if x44 = true then (some false) else (if x7 = true then ((impl_FirstExtension.f k x1075000 x1075001).bind fun bt1079 => (if bt1079.2 = true then ((laws_pLess.f k x6 bt1079.1).bind fun t1083 => (if t1083 = true then (laws_FnExtensionsAccepted.j1 k x6 true x1075000 x1075001) else (laws_FnExtensionsAccepted.j1 k x6 ((x6.length : Int) != x1075000) x1075000 x1075001))) else (laws_FnExtensionsAccepted.j1 k x6 true x1075000 x1075001))) else (some true))
def laws_FnExtensionsAccepted.j1 : Nat → List Int → Bool → Int → List Int → Option (Bool)
 | 0, _, _, _, _ => none
 | k + 1, x6, x65, x1075000, x1075001 => if x65 = true then (some false) else (laws_FnExtensionsAccepted.l0 k x6 x6 (x6.length : Int) 0 x1075000 x1075001)
def laws_FnExtensionsAccepted.l0 : Nat → List Int → List Int → Int → Int → Int → List Int → Option (Bool)
 | 0, _, _, _, _, _, _ => none
 | k + 1, x6, x66, x67, x68, x1075000, x1075001 => if x68 < x67 then (if 0 ≤ x68 then (if x68 < (x66.length : Int) then (if x68 ≤ (x6.length : Int) then ((some (x6.take (x68 : Int).toNat : List Int)).bind fun y1085 => (laws_FnExtensionsAccepted.l1 k x6 (rd x66 x68) x66 x67 x68 y1085 (y1085.length : Int) 0 x1075000 x1075001)) else (none)) else (none)) else (none)) else (some true)
def laws_FnExtensionsAccepted.l1 : Nat → List Int → Int → List Int → Int → Int → List Int → Int → Int → Int → List Int → Option (Bool)
 | 0, _, _, _, _, _, _, _, _, _, _ => none
 | k + 1, x6, x14, x66, x67, x68, x75, x76, x77, x1075000, x1075001 => if x77 < x76 then (if 0 ≤ x77 then (if x77 < (x75.length : Int) then (if x14 = (rd x75 x77) then (some false) else (if 0 ≤ x14 then (if x14 < (x1075001.length : Int) then ((laws_pIn.f (rd x1075001 x14) (rd x75 x77)).bind fun t1091 => (if t1091 = true then (some false) else (laws_FnExtensionsAccepted.l1 k x6 x14 x66 x67 x68 x75 x76 (wrap64 (x77 + 1)) x1075000 x1075001))) else (none)) else (none))) else (none)) else (none)) else (laws_FnExtensionsAccepted.l0 k x6 x66 x67 (wrap64 (x68 + 1)) x1075000 x1075001)
end
def laws_FnExtensionsAccepted.f (k : Nat) (l0 : List Int) (l1 : List Int) : Option (Bool) := (laws_big.f l0 l1).bind fun t1066 => (if t1066 = true then (some true) else ((spec_DrawIsExtension.f k l0).bind fun bt1067 => ((impl_IsExtension.f k bt1067.1 bt1067.2.1 bt1067.2.2).bind fun bt1075 => ((spec_IsExtension.f k bt1067.1 bt1067.2.1 bt1067.2.2).bind fun bt1077 => (if (bt1075.2 != bt1077.2) = true then (laws_FnExtensionsAccepted.j0 k bt1067.2.2 bt1075.1 true bt1067.1 bt1067.2.1) else (laws_FnExtensionsAccepted.j0 k bt1067.2.2 bt1075.1 (bt1075.1 != bt1077.1) bt1067.1 bt1067.2.1))))))
set_option maxHeartbeats 8000000 in
set_option maxRecDepth 100000 in
theorem laws_FnExtensionsAccepted.calls (k : Nat) (A0 : Option Addr) (c0 : Nat) (l0 : List Int) (A1 : Option Addr) (c1 : Nat) (l1 : List Int) (r : Bool) (w : World) (hr0 : Kd.C (Kd.int .u8) w A0 l0.length l0) (hc0 : l0.length ≤ c0) (hr1 : Kd.C (Kd.int .u8) w A1 l1.length l1) (hc1 : l1.length ≤ c1) (hT : TabOK w) (h : laws_FnExtensionsAccepted.f k l0 l1 = some r) :
 Calls Tryd.prog 9 #[.slice A0 l0.length c0, .slice A1 l1.length c1] w fun e w' => e = .returned (.bool r) ∧ Below w.heap.size w w' := by
 have hu26 := Tryd.underlying26
 have HT := Aside0.mk hT
 clear hT
 have HR0 := Aside0.mk hr0
 have HC0 := Aside0.mk hc0
 clear hr0 hc0
 have HR1 := Aside0.mk hr1
 have HC1 := Aside0.mk hc1
 clear hr1 hc1
 have HB := Aside0.mk (Below.refl w.heap.size w)
 have H : ((laws_big.f l0 l1).bind fun t1066 => (if t1066 = true then (some true) else ((spec_DrawIsExtension.f k l0).bind fun bt1067 => ((impl_IsExtension.f k bt1067.1 bt1067.2.1 bt1067.2.2).bind fun bt1075 => ((spec_IsExtension.f k bt1067.1 bt1067.2.1 bt1067.2.2).bind fun bt1077 => (if (bt1075.2 != bt1077.2) = true then (laws_FnExtensionsAccepted.j0 k bt1067.2.2 bt1075.1 true bt1067.1 bt1067.2.1) else (laws_FnExtensionsAccepted.j0 k bt1067.2.2 bt1075.1 (bt1075.1 != bt1077.1) bt1067.1 bt1067.2.1))))))) = some r := h
 clear h
 replace H := Option.bind_eq_some_iff.mp H
 obtain ⟨t1066, A30, H⟩ := H
 replace H : (if t1066 = true then (some true) else ((spec_DrawIsExtension.f k l0).bind fun bt1067 => ((impl_IsExtension.f k bt1067.1 bt1067.2.1 bt1067.2.2).bind fun bt1075 => ((spec_IsExtension.f k bt1067.1 bt1067.2.1 bt1067.2.2).bind fun bt1077 => (if (bt1075.2 != bt1077.2) = true then (laws_FnExtensionsAccepted.j0 k bt1067.2.2 bt1075.1 true bt1067.1 bt1067.2.1) else (laws_FnExtensionsAccepted.j0 k bt1067.2.2 bt1075.1 (bt1075.1 != bt1077.1) bt1067.1 bt1067.2.1)))))) = some r := H
 have A3 := Aside0.mk A30
 clear A30
 by_cases c4 : t1066 = true
 ·subst c4
  have H1 : (some true) = some r := by rw [if_pos rfl] at H; exact H
  clear H
  have H := H1
  clear H1
  obtain rfl := Option.some.inj H
  go_enter Tryd.func9, Tryd.ntmps9
  go_wp2_with (first | ((with_reducible refine gate_callee (f := 20) rfl ?_); refine goesL_ (some 19) rfl rfl Tryd.func20 (by kernel_rfl) rfl #[.slice A0 l0.length c0, .slice A1 l1.length c1] rfl (by (try simp only [List.map_toArray, List.map_cons, List.map_nil]); first | done | rfl | (simp only [List.length_drop, List.length_take]; rfl)) ?_; (with_reducible refine (laws_big.calls _ _ l0 _ _ l1 true _ ?side1 ?side2 ?side3 ?side4 A3.out).mono ?_); (case side1 => repeat (first | exact HR0.out | (with_reducible refine Kd.C_alloc ?_ _) | (with_reducible refine Kd.C_drewN ?_ _) | (with_reducible refine Kd.C_drew ?_))); (case side2 => exact HC0.out); (case side3 => repeat (first | exact HR1.out | (with_reducible refine Kd.C_alloc ?_ _) | (with_reducible refine Kd.C_drewN ?_ _) | (with_reducible refine Kd.C_drew ?_))); (case side4 => exact HC1.out); rintro e w' ⟨rfl, ⟨nd, rfl⟩⟩; refine ⟨_, rfl, ?_⟩))
  go_ret
  exact ⟨by first | rfl | (simp [errW_none, errW_some] <;> rfl) | (simp [*, errW_none, errW_some] <;> rfl), by repeat (first | (with_reducible first | exact HB.out | apply below_alloc | apply pw_below_drewN | apply below_drew1) | exact HB.out)⟩
 ·replace c4 := Bool.eq_false_iff.mpr c4
  subst c4
  have H1 : ((spec_DrawIsExtension.f k l0).bind fun bt1067 => ((impl_IsExtension.f k bt1067.1 bt1067.2.1 bt1067.2.2).bind fun bt1075 => ((spec_IsExtension.f k bt1067.1 bt1067.2.1 bt1067.2.2).bind fun bt1077 => (if (bt1075.2 != bt1077.2) = true then (laws_FnExtensionsAccepted.j0 k bt1067.2.2 bt1075.1 true bt1067.1 bt1067.2.1) else (laws_FnExtensionsAccepted.j0 k bt1067.2.2 bt1075.1 (bt1075.1 != bt1077.1) bt1067.1 bt1067.2.1))))) = some r := by rw [if_neg (show ¬ (false = true) by decide)] at H; exact H
  clear H
  have H := H1
  clear H1
  replace H := Option.bind_eq_some_iff.mp H
  obtain ⟨⟨t1067, t1068, t1071⟩, A50, H⟩ := H
  replace H : ((impl_IsExtension.f k t1067 t1068 t1071).bind fun bt1075 => ((spec_IsExtension.f k t1067 t1068 t1071).bind fun bt1077 => (if (bt1075.2 != bt1077.2) = true then (laws_FnExtensionsAccepted.j0 k t1071 bt1075.1 true t1067 t1068) else (laws_FnExtensionsAccepted.j0 k t1071 bt1075.1 (bt1075.1 != bt1077.1) t1067 t1068)))) = some r := H
  have A5 := Aside0.mk A50
  clear A50
  replace H := Option.bind_eq_some_iff.mp H
  obtain ⟨⟨t1075, t1076⟩, A60, H⟩ := H
  replace H : ((spec_IsExtension.f k t1067 t1068 t1071).bind fun bt1077 => (if (t1076 != bt1077.2) = true then (laws_FnExtensionsAccepted.j0 k t1071 t1075 true t1067 t1068) else (laws_FnExtensionsAccepted.j0 k t1071 t1075 (t1075 != bt1077.1) t1067 t1068))) = some r := H
  have A6 := Aside0.mk A60
  clear A60
  replace H := Option.bind_eq_some_iff.mp H
  obtain ⟨⟨t1077, t1078⟩, A70, H⟩ := H
  replace H : (if (t1076 != t1078) = true then (laws_FnExtensionsAccepted.j0 k t1071 t1075 true t1067 t1068) else (laws_FnExtensionsAccepted.j0 k t1071 t1075 (t1075 != t1077) t1067 t1068)) = some r := H
  have A7 := Aside0.mk A70
  clear A70
  have HC8 := Aside0.mk H
  clear H
  go_enter Tryd.func9, Tryd.ntmps9
  go_upto_region 6 with (first | ((with_reducible refine gate_callee (f := 20) rfl ?_); refine goesL_ (some 19) rfl rfl Tryd.func20 (by kernel_rfl) rfl #[.slice A0 l0.length c0, .slice A1 l1.length c1] rfl (by (try simp only [List.map_toArray, List.map_cons, List.map_nil]); first | done | rfl | (simp only [List.length_drop, List.length_take]; rfl)) ?_; (with_reducible refine (laws_big.calls _ _ l0 _ _ l1 false _ ?side1 ?side2 ?side3 ?side4 A3.out).mono ?_); (case side1 => repeat (first | exact HR0.out | (with_reducible refine Kd.C_alloc ?_ _) | (with_reducible refine Kd.C_drewN ?_ _) | (with_reducible refine Kd.C_drew ?_))); (case side2 => exact HC0.out); (case side3 => repeat (first | exact HR1.out | (with_reducible refine Kd.C_alloc ?_ _) | (with_reducible refine Kd.C_drewN ?_ _) | (with_reducible refine Kd.C_drew ?_))); (case side4 => exact HC1.out); rintro e w' ⟨rfl, ⟨nd, rfl⟩⟩; refine ⟨_, rfl, ?_⟩) | ((with_reducible refine gate_callee (f := 55) rfl ?_); refine goesL_ (some 22) rfl rfl Tryd.func55 (by kernel_rfl) rfl #[.slice A0 l0.length c0] rfl (by (try simp only [List.map_toArray, List.map_cons, List.map_nil]); first | done | rfl | (simp only [List.length_drop, List.length_take]; rfl)) ?_; (with_reducible refine (spec_DrawIsExtension.calls k _ _ l0 t1067 t1068 t1071 _ ?side1 ?side2 A5.out).mono ?_); (case side1 => repeat (first | exact HR0.out | (with_reducible refine Kd.C_alloc ?_ _) | (with_reducible refine Kd.C_drewN ?_ _) | (with_reducible refine Kd.C_drew ?_))); (case side2 => exact HC0.out); rintro e w9 ⟨v1069, v1072, rfl, ho0, ho1, hb⟩; refine ⟨_, rfl, ?_⟩; have n0_ := Aside0.mk (Kd.R_lower ho0 (below_size (by repeat (first | (with_reducible first | exact HB.out | apply below_alloc | apply pw_below_drewN | apply below_drew1) | exact HB.out)))); have n1_ := Aside0.mk (Kd.R_lower ho1 (below_size (by repeat (first | (with_reducible first | exact HB.out | apply below_alloc | apply pw_below_drewN | apply below_drew1) | exact HB.out)))); have n2_ := Aside0.mk (below_step (by repeat (first | (with_reducible first | exact HB.out | apply below_alloc | apply pw_below_drewN | apply below_drew1) | exact HB.out)) hb); clear HB; have HO1070 := n0_; have HO1073 := n1_; have HB := n2_; clear n0_ n1_ n2_; (try clear hb); (try clear hb2); (try clear hk); (try clear hi); (try clear ho0); (try clear ho1)) | ((with_reducible refine gate_dst (N := 5) rfl ?_); (try (refine gate_guard (by rfl) ?_; dsimp only)); refine box_event ?hg (N := 5) ?hd (cs := #[.int .i64 0, .slice none 0 0]) (t := 26) ?hr ?_; (case hd => rfl); (case hg => rfl); (case hr => first | (go_simp; done) | (go_simp; rfl)); intro gb1074 hg w10 hbox hb; have n0_ := Aside0.mk (Kd.R_below (by (with_reducible repeat (first | apply Kd.R_alloc | apply Kd.R_drewN | apply Kd.R_drew)); exact HO1070.out) hb); have n1_ := Aside0.mk (Kd.R_below (by (with_reducible repeat (first | apply Kd.R_alloc | apply Kd.R_drewN | apply Kd.R_drew)); exact HO1073.out) hb); have n2_ := Aside0.mk (below_step (by repeat (first | (with_reducible first | exact HB.out | apply below_alloc | apply pw_below_drewN | apply below_drew1) | exact HB.out)) hb); have n3_ := Aside0.mk (hbox); have n4_ := Aside0.mk ((by rw [hg]; exact (below_size (by repeat (first | (with_reducible first | exact HB.out | apply below_alloc | apply pw_below_drewN | apply below_drew1) | exact HB.out))) : w.heap.size ≤ gb1074)); have n5_ := Aside0.mk ((by rw [hg]; exact (below_size (by repeat (first | (with_reducible first | exact HB.out | apply below_alloc | apply pw_below_drewN | apply below_drew1) | exact HB.out))) : w.heap.size ≤ gb1074)); clear HO1070; clear HO1073; clear HB; have HO1070 := n0_; have HO1073 := n1_; have HB := n2_; have BK1074 := n3_; have GW1074 := n4_; have GE1074 := n5_; clear n0_ n1_ n2_ n3_ n4_ n5_; clear hb hbox hg; have hcz11_0 : w10.cell? ⟨gb1074, 0, none⟩ = some (.int .i64 0) := (blk_cell BK1074.out 0).trans rfl; have hcz11_1 : w10.cell? ⟨gb1074, 1, none⟩ = some (.slice none 0 0) := (blk_cell BK1074.out 1).trans rfl; have hfz11_0 := blk_frozen BK1074.out 0; have hfz11_1 := blk_frozen BK1074.out 1; obtain ⟨Ao12, co12, eo12⟩ := Kd.R_slice HO1070.out; subst eo12; obtain ⟨Ao13, co13, eo13⟩ := Kd.R_slice HO1073.out; subst eo13) | ((with_reducible refine gate_callee (f := 50) rfl ?_); refine goesL_ (some 28) rfl rfl Tryd.func50 (by kernel_rfl) rfl #[.agg #[.int .i64 t1067, .slice Ao12 t1068.length co12], .slice Ao13 t1071.length co13] rfl (by (try simp only [List.map_toArray, List.map_cons, List.map_nil]); first | done | rfl | (simp only [List.length_drop, List.length_take]; rfl)) ?_; (with_reducible refine (impl_IsExtension.calls k t1067 _ _ t1068 _ _ t1071 t1075 t1076 _ ?side1 ?side2 ?side3 ?side4 ?side5 A6.out).mono ?_); (case side1 => refine (Kd.R_reads' (e := 3) (base := w.heap.size) (ok := fun k_ => some k_ ≠ (.slice Ao13 t1071.length co13 : Value).ownBlock) (n := t1068.length) (c := co12) ?_).2.2; exact (by (with_reducible repeat (first | apply Kd.R_alloc | apply Kd.R_drewN | apply Kd.R_drew)); exact (Kd.R_mono (Kd.R_far (p := ⟨gb1074, 1, none⟩) (Kd.R_far (p := ⟨gb1074, 0, none⟩) (Kd.R_types HO1070.out BK1074.out (by decide)) (fun _ hk => hk.2) (.int .i64 t1067)) (fun _ hk => hk.2) (.slice Ao12 t1068.length co12)) (fun _ h_ => h_.1)))); (case side2 => exact (Kd.R_reads' HO1070.out).2.1); (case side3 => refine (Kd.R_reads' (e := 3) (base := w.heap.size) (ok := fun k_ => some k_ ≠ (.slice Ao12 t1068.length co12 : Value).ownBlock) (n := t1071.length) (c := co13) ?_).2.2; exact (by (with_reducible repeat (first | apply Kd.R_alloc | apply Kd.R_drewN | apply Kd.R_drew)); exact (Kd.R_mono (Kd.R_far (p := ⟨gb1074, 1, none⟩) (Kd.R_far (p := ⟨gb1074, 0, none⟩) (Kd.R_types HO1073.out BK1074.out (by decide)) (fun _ hk => hk.2) (.int .i64 t1067)) (fun _ hk => hk.2) (.slice Ao12 t1068.length co12)) (fun _ h_ => h_.1)))); (case side4 => exact (Kd.R_reads' HO1073.out).2.1); (case side5 => first | exact HT.out | exact HT.out.below (by repeat (first | (with_reducible first | exact HB.out | apply below_alloc | apply pw_below_drewN | apply below_drew1 | refine below_set ?_ GE1074.out) | exact HB.out)) | (repeat (first | exact HT.out | apply TabOK.drewN | apply TabOK.drew | apply TabOK.alloc))); rintro e w14 ⟨rfl, hb⟩; refine ⟨_, rfl, ?_⟩; have n0_ := Aside0.mk (Kd.R_below (by (with_reducible repeat (first | apply Kd.R_alloc | apply Kd.R_drewN | apply Kd.R_drew)); exact (Kd.R_mono (Kd.R_far (p := ⟨gb1074, 1, none⟩) (Kd.R_far (p := ⟨gb1074, 0, none⟩) (Kd.R_types HO1070.out BK1074.out (by decide)) (fun _ hk => hk.2) (.int .i64 t1067)) (fun _ hk => hk.2) (.slice Ao12 t1068.length co12)) (fun _ h_ => h_.1))) hb); have n1_ := Aside0.mk (Kd.R_below (by (with_reducible repeat (first | apply Kd.R_alloc | apply Kd.R_drewN | apply Kd.R_drew)); exact (Kd.R_mono (Kd.R_far (p := ⟨gb1074, 1, none⟩) (Kd.R_far (p := ⟨gb1074, 0, none⟩) (Kd.R_types HO1073.out BK1074.out (by decide)) (fun _ hk => hk.2) (.int .i64 t1067)) (fun _ hk => hk.2) (.slice Ao12 t1068.length co12)) (fun _ h_ => h_.1))) hb); have n2_ := Aside0.mk (blk_below (g := gb1074) (o := .cells #[.int .i64 t1067, .slice Ao12 t1068.length co12] 26 (0, 0)) (by (with_reducible repeat (first | refine blk_drewN ?_ _ | refine blk_drew ?_ | refine blk_alloc ?_ _)); refine blk_put (cs := #[.int .i64 t1067, .slice none 0 0]) ?_ 1 _ rfl; (with_reducible repeat (first | refine blk_drewN ?_ _ | refine blk_drew ?_ | refine blk_alloc ?_ _)); refine blk_put (cs := #[.int .i64 0, .slice none 0 0]) ?_ 0 _ rfl; (with_reducible repeat (first | refine blk_drewN ?_ _ | refine blk_drew ?_ | refine blk_alloc ?_ _)); exact BK1074.out) hb); have n3_ := Aside0.mk (below_step (by repeat (first | (with_reducible first | exact HB.out | apply below_alloc | apply pw_below_drewN | apply below_drew1 | refine below_set ?_ GE1074.out) | exact HB.out)) hb); clear HO1070; clear HO1073; clear BK1074; clear HB; have HO1070 := n0_; have HO1073 := n1_; have BK1074 := n2_; have HB := n3_; clear n0_ n1_ n2_ n3_; (try clear hb); (try clear hb2); (try clear hk); (try clear hi); have hcz15_0 : w14.cell? ⟨gb1074, 0, none⟩ = some (.int .i64 t1067) := (blk_cell BK1074.out 0).trans rfl; have hcz15_1 : w14.cell? ⟨gb1074, 1, none⟩ = some (.slice Ao12 t1068.length co12) := (blk_cell BK1074.out 1).trans rfl; have hfz15_0 := blk_frozen BK1074.out 0; have hfz15_1 := blk_frozen BK1074.out 1) | ((with_reducible refine gate_callee (f := 56) rfl ?_); refine goesL_ (some 34) rfl rfl Tryd.func56 (by kernel_rfl) rfl #[.agg #[.int .i64 t1067, .slice Ao12 t1068.length co12], .slice Ao13 t1071.length co13] rfl (by (try simp only [List.map_toArray, List.map_cons, List.map_nil]); first | done | rfl | (simp only [List.length_drop, List.length_take]; rfl)) ?_; (with_reducible refine (spec_IsExtension.calls k t1067 _ _ t1068 _ _ t1071 t1077 t1078 _ ?side1 ?side2 ?side3 ?side4 A7.out).mono ?_); (case side1 => repeat (first | exact (Kd.R_reads' HO1070.out).2.2 | (with_reducible refine Kd.C_alloc ?_ _) | (with_reducible refine Kd.C_drewN ?_ _) | (with_reducible refine Kd.C_drew ?_))); (case side2 => exact (Kd.R_reads' HO1070.out).2.1); (case side3 => repeat (first | exact (Kd.R_reads' HO1073.out).2.2 | (with_reducible refine Kd.C_alloc ?_ _) | (with_reducible refine Kd.C_drewN ?_ _) | (with_reducible refine Kd.C_drew ?_))); (case side4 => exact (Kd.R_reads' HO1073.out).2.1); rintro e w16 ⟨rfl, hb⟩; refine ⟨_, rfl, ?_⟩; have n0_ := Aside0.mk (Kd.R_below (by (with_reducible repeat (first | apply Kd.R_alloc | apply Kd.R_drewN | apply Kd.R_drew)); exact HO1070.out) hb); have n1_ := Aside0.mk (Kd.R_below (by (with_reducible repeat (first | apply Kd.R_alloc | apply Kd.R_drewN | apply Kd.R_drew)); exact HO1073.out) hb); have n2_ := Aside0.mk (blk_below (g := gb1074) (o := .cells #[.int .i64 t1067, .slice Ao12 t1068.length co12] 26 (0, 0)) (by (with_reducible repeat (first | refine blk_drewN ?_ _ | refine blk_drew ?_ | refine blk_alloc ?_ _)); exact BK1074.out) hb); have n3_ := Aside0.mk (below_step (by repeat (first | (with_reducible first | exact HB.out | apply below_alloc | apply pw_below_drewN | apply below_drew1 | refine below_set ?_ GE1074.out) | exact HB.out)) hb); clear HO1070; clear HO1073; clear BK1074; clear HB; have HO1070 := n0_; have HO1073 := n1_; have BK1074 := n2_; have HB := n3_; clear n0_ n1_ n2_ n3_; (try clear hb); (try clear hb2); (try clear hk); (try clear hi)))
  (try simp only [Act.put, L_,M_,N_])
  go_cut [44] (fun v44 wc => ∃ (kq : Nat) (x44_7 : Bool), v44 = .bool x44_7 ∧ Aside0 (laws_FnExtensionsAccepted.j0 kq t1071 t1075 x44_7 t1067 t1068 = some r) ∧ Aside0 (kq ≤ k) ∧ Aside0 (Kd.R (Kd.int .i64) 3 wc w.heap.size (fun k_ => some k_ ≠ ((.slice Ao12 t1068.length co12) : Value).ownBlock) (.slice Ao13 t1071.length co13) t1071) ∧ Aside0 (Kd.R (Kd.int .i64) 3 wc w.heap.size (fun k_ => some k_ ≠ ((.slice Ao13 t1071.length co13) : Value).ownBlock) (.slice Ao12 t1068.length co12) t1068) ∧ Aside0 (wc.heap[gb1074]? = some (.cells #[.int .i64 t1067, (.slice Ao12 t1068.length co12)] 26 (0, 0))) ∧ Aside0 (Below w.heap.size w wc))
  case first =>
   have H := HC8.out
   clear HC8
   by_cases c17 : (t1076 != t1078) = true
   ·rw [if_pos c17] at H
    have c17b0 : (t1076 != t1078) = true := c17
    (try (have c17b1 : decide (t1076 = t1078) = false := by simpa using c17))
    (try (have c17b2 : (t1076 == t1078) = false := by simpa using c17))
    (try (have c17b3 : ¬ (t1076 = t1078) := by simpa using c17))
    clear c17
    (first | rw [c17b0] | (simp only [i64_w, i32_w]; rw [c17b0]) | skip)
    have H' := Aside0.mk H
    clear H
    go_wp2
    go_meet
    case rel => exact ⟨_, (true), (by first | rfl | (simp; done) | (simp [*]; done)), H', ⟨by first | omega | exact Nat.le_refl _⟩, ⟨by (with_reducible repeat (first | apply Kd.R_alloc | apply Kd.R_drewN | apply Kd.R_drew)); exact HO1073.out⟩, ⟨by (with_reducible repeat (first | apply Kd.R_alloc | apply Kd.R_drewN | apply Kd.R_drew)); exact HO1070.out⟩, ⟨by (with_reducible repeat (first | refine blk_drewN ?_ _ | refine blk_drew ?_ | refine blk_alloc ?_ _)); exact BK1074.out⟩, ⟨by repeat (first | (with_reducible first | exact HB.out | apply below_alloc | apply pw_below_drewN | apply below_drew1 | refine below_set ?_ GE1074.out) | exact HB.out)⟩⟩
   ·rw [if_neg c17] at H
    have c17b0 : (t1076 != t1078) = false := by simpa using c17
    (try (have c17b1 : decide (t1076 = t1078) = true := by simpa using c17))
    (try (have c17b2 : (t1076 == t1078) = true := by simpa using c17))
    clear c17
    (first | rw [c17b0] | (simp only [i64_w, i32_w]; rw [c17b0]) | skip)
    have H' := Aside0.mk H
    clear H
    go_wp2
    go_meet
    case rel => exact ⟨_, ((t1075 != t1077)), (by first | rfl | (simp; done) | (simp [*]; done)), H', ⟨by first | omega | exact Nat.le_refl _⟩, ⟨by (with_reducible repeat (first | apply Kd.R_alloc | apply Kd.R_drewN | apply Kd.R_drew)); exact HO1073.out⟩, ⟨by (with_reducible repeat (first | apply Kd.R_alloc | apply Kd.R_drewN | apply Kd.R_drew)); exact HO1070.out⟩, ⟨by (with_reducible repeat (first | refine blk_drewN ?_ _ | refine blk_drew ?_ | refine blk_alloc ?_ _)); exact BK1074.out⟩, ⟨by repeat (first | (with_reducible first | exact HB.out | apply below_alloc | apply pw_below_drewN | apply below_drew1 | refine below_set ?_ GE1074.out) | exact HB.out)⟩⟩
  case rest =>
   clear HC8
   try clear c1
   try clear c2
   try clear p2
   try clear c4
   try clear c5
   try clear c9
   try clear c17
   try clear c17b0
   try clear c17b1
   try clear c17b2
   try clear hcz11_0
   try clear hcz11_1
   try clear hcz15_0
   try clear hcz15_1
   try clear hfz11_0
   try clear hfz11_1
   try clear hfz15_0
   try clear hfz15_1
   obtain ⟨kq, x44_7, rfl, HA, HJ7, HO_6, HO_1075001, BK1074, HB⟩ := hcut
   cases kq with
   | zero => exact absurd HA.out (by simp [laws_FnExtensionsAccepted.j0])
   | succ kj7 =>
    have H := HA.out
    clear HA
    simp only [laws_FnExtensionsAccepted.j0] at H
    by_cases c18 : x44_7 = true
    ·subst c18
     have H1 : (some false) = some r := by rw [if_pos rfl] at H; exact H
     clear H
     have H := H1
     clear H1
     obtain rfl := Option.some.inj H
     go_wp2
     go_ret
     exact ⟨by first | rfl | (simp [errW_none, errW_some] <;> rfl) | (simp [*, errW_none, errW_some] <;> rfl), by repeat (first | (with_reducible first | exact HB.out | apply below_alloc | apply pw_below_drewN | apply below_drew1 | refine below_set ?_ GE1074.out) | exact HB.out)⟩
    ·replace c18 := Bool.eq_false_iff.mpr c18
     subst c18
     have H1 : (if t1075 = true then ((impl_FirstExtension.f kj7 t1067 t1068).bind fun bt1079 => (if bt1079.2 = true then ((laws_pLess.f kj7 t1071 bt1079.1).bind fun t1083 => (if t1083 = true then (laws_FnExtensionsAccepted.j1 kj7 t1071 true t1067 t1068) else (laws_FnExtensionsAccepted.j1 kj7 t1071 ((t1071.length : Int) != t1067) t1067 t1068))) else (laws_FnExtensionsAccepted.j1 kj7 t1071 true t1067 t1068))) else (some true)) = some r := by rw [if_neg (show ¬ (false = true) by decide)] at H; exact H
     clear H
     have H := H1
     clear H1
     by_cases c19 : t1075 = true
     ·subst c19
      have H1 : ((impl_FirstExtension.f kj7 t1067 t1068).bind fun bt1079 => (if bt1079.2 = true then ((laws_pLess.f kj7 t1071 bt1079.1).bind fun t1083 => (if t1083 = true then (laws_FnExtensionsAccepted.j1 kj7 t1071 true t1067 t1068) else (laws_FnExtensionsAccepted.j1 kj7 t1071 ((t1071.length : Int) != t1067) t1067 t1068))) else (laws_FnExtensionsAccepted.j1 kj7 t1071 true t1067 t1068))) = some r := by rw [if_pos rfl] at H; exact H
      clear H
      have H := H1
      clear H1
      replace H := Option.bind_eq_some_iff.mp H
      obtain ⟨⟨t1079, t1082⟩, A200, H⟩ := H
      replace H : (if t1082 = true then ((laws_pLess.f kj7 t1071 t1079).bind fun t1083 => (if t1083 = true then (laws_FnExtensionsAccepted.j1 kj7 t1071 true t1067 t1068) else (laws_FnExtensionsAccepted.j1 kj7 t1071 ((t1071.length : Int) != t1067) t1067 t1068))) else (laws_FnExtensionsAccepted.j1 kj7 t1071 true t1067 t1068)) = some r := H
      have A20 := Aside0.mk A200
      clear A200
      have HC21 := Aside0.mk H
      clear H
      have hcz22_0 : wc.cell? ⟨gb1074, 0, none⟩ = some (.int .i64 t1067) := (blk_cell BK1074.out 0).trans rfl
      have hcz22_1 : wc.cell? ⟨gb1074, 1, none⟩ = some (.slice Ao12 t1068.length co12) := (blk_cell BK1074.out 1).trans rfl
      have hfz22_0 := blk_frozen BK1074.out 0
      have hfz22_1 := blk_frozen BK1074.out 1
      go_upto_region 11 with (first | ((with_reducible refine gate_callee (f := 49) rfl ?_); refine goesL_ (some 49) rfl rfl Tryd.func49 (by kernel_rfl) rfl #[.agg #[.int .i64 t1067, .slice Ao12 t1068.length co12]] rfl (by (try simp only [List.map_toArray, List.map_cons, List.map_nil]); first | done | rfl | (simp only [List.length_drop, List.length_take]; rfl)) ?_; (with_reducible refine (impl_FirstExtension.calls kj7 t1067 _ _ t1068 t1079 t1082 _ ?side1 ?side2 ?side3 A20.out).mono ?_); (case side1 => repeat (first | exact (Kd.R_reads' HO_1075001.out).2.2 | (with_reducible refine Kd.C_alloc ?_ _) | (with_reducible refine Kd.C_drewN ?_ _) | (with_reducible refine Kd.C_drew ?_))); (case side2 => exact (Kd.R_reads' HO_1075001.out).2.1); (case side3 => first | exact HT.out | exact HT.out.below (by repeat (first | (with_reducible first | exact HB.out | apply below_alloc | apply pw_below_drewN | apply below_drew1 | refine below_set ?_ GE1074.out) | exact HB.out)) | (repeat (first | exact HT.out | apply TabOK.drewN | apply TabOK.drew | apply TabOK.alloc))); rintro e w23 ⟨v1080, rfl, ho0, hb⟩; refine ⟨_, rfl, ?_⟩; have n0_ := Aside0.mk (Kd.R_elder' (by (with_reducible repeat (first | apply Kd.R_alloc | apply Kd.R_drewN | apply Kd.R_drew)); exact HO_6.out) (Kd.R_base ho0) hb); have n1_ := Aside0.mk (Kd.R_elder' (by (with_reducible repeat (first | apply Kd.R_alloc | apply Kd.R_drewN | apply Kd.R_drew)); exact HO_1075001.out) (Kd.R_base ho0) hb); have n2_ := Aside0.mk (Kd.R_lower (Kd.R_new' (Kd.R_new' ho0 (Kd.R_lt (by (with_reducible repeat (first | apply Kd.R_alloc | apply Kd.R_drewN | apply Kd.R_drew)); exact HO_6.out))) (Kd.R_lt (by (with_reducible repeat (first | apply Kd.R_alloc | apply Kd.R_drewN | apply Kd.R_drew)); exact HO_1075001.out))) (below_size (by repeat (first | (with_reducible first | exact HB.out | apply below_alloc | apply pw_below_drewN | apply below_drew1 | refine below_set ?_ GE1074.out) | exact HB.out)))); have n3_ := Aside0.mk (blk_below (g := gb1074) (o := .cells #[.int .i64 t1067, .slice Ao12 t1068.length co12] 26 (0, 0)) (by (with_reducible repeat (first | refine blk_drewN ?_ _ | refine blk_drew ?_ | refine blk_alloc ?_ _)); exact BK1074.out) hb); have n4_ := Aside0.mk (below_step (by repeat (first | (with_reducible first | exact HB.out | apply below_alloc | apply pw_below_drewN | apply below_drew1 | refine below_set ?_ GE1074.out) | exact HB.out)) hb); clear HO_6; clear HO_1075001; clear BK1074; clear HB; have HO_6 := n0_; have HO_1075001 := n1_; have HO1081 := n2_; have BK1074 := n3_; have HB := n4_; clear n0_ n1_ n2_ n3_ n4_; (try clear hb); (try clear hb2); (try clear hk); (try clear hi); (try clear ho0)))
      (try simp only [Act.put, L_,M_,N_])
      go_cut [65] (fun v65 wc => ∃ (kq : Nat) (x65_20 : Bool), v65 = .bool x65_20 ∧ Aside0 (laws_FnExtensionsAccepted.j1 kq t1071 x65_20 t1067 t1068 = some r) ∧ Aside0 (kq ≤ kj7) ∧ Aside0 (Kd.R (Kd.int .i64) 3 wc w.heap.size (fun k_ => some k_ ≠ ((.slice Ao12 t1068.length co12) : Value).ownBlock) (.slice Ao13 t1071.length co13) t1071) ∧ Aside0 (Kd.R (Kd.int .i64) 3 wc w.heap.size (fun k_ => some k_ ≠ ((.slice Ao13 t1071.length co13) : Value).ownBlock) (.slice Ao12 t1068.length co12) t1068) ∧ Aside0 (wc.heap[gb1074]? = some (.cells #[.int .i64 t1067, (.slice Ao12 t1068.length co12)] 26 (0, 0))) ∧ Aside0 (Below w.heap.size w wc))
      case first =>
       have H := HC21.out
       clear HC21
       by_cases c24 : t1082 = true
       ·subst c24
        have H1 : ((laws_pLess.f kj7 t1071 t1079).bind fun t1083 => (if t1083 = true then (laws_FnExtensionsAccepted.j1 kj7 t1071 true t1067 t1068) else (laws_FnExtensionsAccepted.j1 kj7 t1071 ((t1071.length : Int) != t1067) t1067 t1068))) = some r := by rw [if_pos rfl] at H; exact H
        clear H
        have H := H1
        clear H1
        replace H := Option.bind_eq_some_iff.mp H
        obtain ⟨t1083, A250, H⟩ := H
        replace H : (if t1083 = true then (laws_FnExtensionsAccepted.j1 kj7 t1071 true t1067 t1068) else (laws_FnExtensionsAccepted.j1 kj7 t1071 ((t1071.length : Int) != t1067) t1067 t1068)) = some r := H
        have A25 := Aside0.mk A250
        clear A250
        by_cases c26 : t1083 = true
        ·subst c26
         have H1 : (laws_FnExtensionsAccepted.j1 kj7 t1071 true t1067 t1068) = some r := by rw [if_pos rfl] at H; exact H
         clear H
         have H := H1
         clear H1
         have H' := Aside0.mk H
         clear H
         obtain ⟨Ao27, co27, eo27⟩ := Kd.R_slice HO1081.out
         subst eo27
         go_wp2_with (first | (go_at_call 57; (with_reducible refine (laws_pLess.calls kj7 _ _ t1071 _ _ t1079 true _ ?side1 ?side2 ?side3 ?side4 A25.out).mono ?_); (case side1 => repeat (first | exact (Kd.R_reads' HO_6.out).2.2 | (with_reducible refine Kd.C_alloc ?_ _) | (with_reducible refine Kd.C_drewN ?_ _) | (with_reducible refine Kd.C_drew ?_))); (case side2 => exact (Kd.R_reads' HO_6.out).2.1); (case side3 => repeat (first | exact (Kd.R_reads' HO1081.out).2.2 | (with_reducible refine Kd.C_alloc ?_ _) | (with_reducible refine Kd.C_drewN ?_ _) | (with_reducible refine Kd.C_drew ?_))); (case side4 => exact (Kd.R_reads' HO1081.out).2.1); rintro e w' ⟨rfl, ⟨nd, rfl⟩⟩))
         go_meet
         case rel => exact ⟨_, (true), (by first | rfl | (simp; done) | (simp [*]; done)), H', ⟨by have := HJ7.out; first | omega | exact Nat.le_refl _⟩, ⟨by (with_reducible repeat (first | apply Kd.R_alloc | apply Kd.R_drewN | apply Kd.R_drew)); exact Kd.R_mono HO_6.out (fun _ hk => hk.1)⟩, ⟨by (with_reducible repeat (first | apply Kd.R_alloc | apply Kd.R_drewN | apply Kd.R_drew)); exact Kd.R_mono HO_1075001.out (fun _ hk => hk.1)⟩, ⟨by (with_reducible repeat (first | refine blk_drewN ?_ _ | refine blk_drew ?_ | refine blk_alloc ?_ _)); exact BK1074.out⟩, ⟨by repeat (first | (with_reducible first | exact HB.out | apply below_alloc | apply pw_below_drewN | apply below_drew1 | refine below_set ?_ GE1074.out) | exact HB.out)⟩⟩
        ·replace c26 := Bool.eq_false_iff.mpr c26
         subst c26
         have H1 : (laws_FnExtensionsAccepted.j1 kj7 t1071 ((t1071.length : Int) != t1067) t1067 t1068) = some r := by rw [if_neg (show ¬ (false = true) by decide)] at H; exact H
         clear H
         have H := H1
         clear H1
         have H' := Aside0.mk H
         clear H
         obtain ⟨Ao28, co28, eo28⟩ := Kd.R_slice HO1081.out
         subst eo28
         go_wp2_with (first | (go_at_call 57; (with_reducible refine (laws_pLess.calls kj7 _ _ t1071 _ _ t1079 false _ ?side1 ?side2 ?side3 ?side4 A25.out).mono ?_); (case side1 => repeat (first | exact (Kd.R_reads' HO_6.out).2.2 | (with_reducible refine Kd.C_alloc ?_ _) | (with_reducible refine Kd.C_drewN ?_ _) | (with_reducible refine Kd.C_drew ?_))); (case side2 => exact (Kd.R_reads' HO_6.out).2.1); (case side3 => repeat (first | exact (Kd.R_reads' HO1081.out).2.2 | (with_reducible refine Kd.C_alloc ?_ _) | (with_reducible refine Kd.C_drewN ?_ _) | (with_reducible refine Kd.C_drew ?_))); (case side4 => exact (Kd.R_reads' HO1081.out).2.1); rintro e w' ⟨rfl, ⟨nd, rfl⟩⟩; have hcz29_0 : w23.cell? ⟨gb1074, 0, none⟩ = some (.int .i64 t1067) := (blk_cell BK1074.out 0).trans rfl; have hcz29_1 : w23.cell? ⟨gb1074, 1, none⟩ = some (.slice Ao12 t1068.length co12) := (blk_cell BK1074.out 1).trans rfl; have hfz29_0 := blk_frozen BK1074.out 0; have hfz29_1 := blk_frozen BK1074.out 1))
         go_meet
         case rel => exact ⟨_, (((t1071.length : Int) != t1067)), (by first | rfl | (simp; done) | (simp [*]; done)), H', ⟨by have := HJ7.out; first | omega | exact Nat.le_refl _⟩, ⟨by (with_reducible repeat (first | apply Kd.R_alloc | apply Kd.R_drewN | apply Kd.R_drew)); exact Kd.R_mono HO_6.out (fun _ hk => hk.1)⟩, ⟨by (with_reducible repeat (first | apply Kd.R_alloc | apply Kd.R_drewN | apply Kd.R_drew)); exact Kd.R_mono HO_1075001.out (fun _ hk => hk.1)⟩, ⟨by (with_reducible repeat (first | refine blk_drewN ?_ _ | refine blk_drew ?_ | refine blk_alloc ?_ _)); exact BK1074.out⟩, ⟨by repeat (first | (with_reducible first | exact HB.out | apply below_alloc | apply pw_below_drewN | apply below_drew1 | refine below_set ?_ GE1074.out) | exact HB.out)⟩⟩
       ·replace c24 := Bool.eq_false_iff.mpr c24
        subst c24
        have H1 : (laws_FnExtensionsAccepted.j1 kj7 t1071 true t1067 t1068) = some r := by rw [if_neg (show ¬ (false = true) by decide)] at H; exact H
        clear H
        have H := H1
        clear H1
        have H' := Aside0.mk H
        clear H
        go_wp2
        go_meet
        case rel => exact ⟨_, (true), (by first | rfl | (simp; done) | (simp [*]; done)), H', ⟨by have := HJ7.out; first | omega | exact Nat.le_refl _⟩, ⟨by (with_reducible repeat (first | apply Kd.R_alloc | apply Kd.R_drewN | apply Kd.R_drew)); exact Kd.R_mono HO_6.out (fun _ hk => hk.1)⟩, ⟨by (with_reducible repeat (first | apply Kd.R_alloc | apply Kd.R_drewN | apply Kd.R_drew)); exact Kd.R_mono HO_1075001.out (fun _ hk => hk.1)⟩, ⟨by (with_reducible repeat (first | refine blk_drewN ?_ _ | refine blk_drew ?_ | refine blk_alloc ?_ _)); exact BK1074.out⟩, ⟨by repeat (first | (with_reducible first | exact HB.out | apply below_alloc | apply pw_below_drewN | apply below_drew1 | refine below_set ?_ GE1074.out) | exact HB.out)⟩⟩
      case rest =>
       clear HC21
       try clear c1
       try clear c2
       try clear p2
       try clear c4
       try clear c5
       try clear c9
       try clear c17
       try clear c17b0
       try clear c17b1
       try clear c17b2
       try clear c18
       try clear c19
       try clear c20
       try clear c24
       try clear c26
       try clear hcz11_0
       try clear hcz11_1
       try clear hcz15_0
       try clear hcz15_1
       try clear hcz22_0
       try clear hcz22_1
       try clear hcz29_0
       try clear hcz29_1
       try clear hfz11_0
       try clear hfz11_1
       try clear hfz15_0
       try clear hfz15_1
       try clear hfz22_0
       try clear hfz22_1
       try clear hfz29_0
       try clear hfz29_1
       try clear p2
       obtain ⟨kq, x65_20, rfl, HA, HJ20, HO_6, HO_1075001, BK1074, HB⟩ := hcut
       cases kq with
       | zero => exact absurd HA.out (by simp [laws_FnExtensionsAccepted.j1])
       | succ kj20 =>
        have H := HA.out
        clear HA
        simp only [laws_FnExtensionsAccepted.j1] at H
        by_cases c30 : x65_20 = true
        ·subst c30
         have H1 : (some false) = some r := by rw [if_pos rfl] at H; exact H
         clear H
         have H := H1
         clear H1
         obtain rfl := Option.some.inj H
         go_wp2
         go_ret
         exact ⟨by first | rfl | (simp [errW_none, errW_some] <;> rfl) | (simp [*, errW_none, errW_some] <;> rfl), by repeat (first | (with_reducible first | exact HB.out | apply below_alloc | apply pw_below_drewN | apply below_drew1 | refine below_set ?_ GE1074.out) | exact HB.out)⟩
        ·replace c30 := Bool.eq_false_iff.mpr c30
         subst c30
         have H1 : (laws_FnExtensionsAccepted.l0 kj20 t1071 t1071 (t1071.length : Int) 0 t1067 t1068) = some r := by rw [if_neg (show ¬ (false = true) by decide)] at H; exact H
         clear H
         have H := H1
         clear H1
         have H' := Aside0.mk H
         clear H
         go_wp2
         go_loopg [68] kj20 (fun kq v68 w' => ∃ (x68_3 : Int), v68 = .int .i64 x68_3 ∧ Aside0 (laws_FnExtensionsAccepted.l0 kq t1071 t1071 (t1071.length : Int) x68_3 t1067 t1068 = some r) ∧ Aside0 (kq ≤ kj20) ∧ Aside0 (Kd.R (Kd.int .i64) 3 w' w.heap.size (fun k_ => some k_ ≠ ((.slice Ao12 t1068.length co12) : Value).ownBlock) (.slice Ao13 t1071.length co13) t1071) ∧ Aside0 (Kd.R (Kd.int .i64) 3 w' w.heap.size (fun k_ => some k_ ≠ ((.slice Ao12 t1068.length co12) : Value).ownBlock) (.slice Ao13 t1071.length co13) t1071) ∧ Aside0 (Kd.R (Kd.int .i64) 3 w' w.heap.size (fun k_ => some k_ ≠ ((.slice Ao13 t1071.length co13) : Value).ownBlock ∧ some k_ ≠ ((.slice Ao13 t1071.length co13) : Value).ownBlock) (.slice Ao12 t1068.length co12) t1068) ∧ Aside0 (w'.heap[gb1074]? = some (.cells #[.int .i64 t1067, (.slice Ao12 t1068.length co12)] 26 (0, 0))) ∧ Aside0 (Below w.heap.size w w'))
         case atStart => exact ⟨(0), (by first | rfl | (simp; done) | (simp [*]; done)), H', ⟨Nat.le_refl _⟩, ⟨by (with_reducible repeat (first | apply Kd.R_alloc | apply Kd.R_drewN | apply Kd.R_drew)); exact HO_6.out⟩, ⟨by (with_reducible repeat (first | apply Kd.R_alloc | apply Kd.R_drewN | apply Kd.R_drew)); exact HO_6.out⟩, ⟨by (with_reducible repeat (first | apply Kd.R_alloc | apply Kd.R_drewN | apply Kd.R_drew)); exact Kd.R_mono HO_1075001.out (fun _ hk => ⟨hk, hk⟩)⟩, ⟨by (with_reducible repeat (first | refine blk_drewN ?_ _ | refine blk_drew ?_ | refine blk_alloc ?_ _)); exact BK1074.out⟩, ⟨by repeat (first | (with_reducible first | exact HB.out | apply below_alloc | apply pw_below_drewN | apply below_drew1 | refine below_set ?_ GE1074.out) | exact HB.out)⟩⟩
         case round =>
          clear H'
          try clear c1
          try clear c2
          try clear p2
          try clear c3
          try clear c4
          try clear c5
          try clear c9
          try clear c17
          try clear c17b0
          try clear c17b1
          try clear c17b2
          try clear c18
          try clear c19
          try clear c20
          try clear c24
          try clear c26
          try clear c30
          try clear hcz11_0
          try clear hcz11_1
          try clear hcz15_0
          try clear hcz15_1
          try clear hcz22_0
          try clear hcz22_1
          try clear hcz29_0
          try clear hcz29_1
          try clear hfz11_0
          try clear hfz11_1
          try clear hfz15_0
          try clear hfz15_1
          try clear hfz22_0
          try clear hfz22_1
          try clear hfz29_0
          try clear hfz29_1
          try clear p2
          obtain ⟨x68_3, rfl, HA, HK3, HO_6, HO_66, HO_1075001, BK1074, HB⟩ := hrel
          cases gk with
          | zero => exact absurd HA.out (by simp [laws_FnExtensionsAccepted.l0])
          | succ k3 =>
           have H := HA.out
           clear HA
           simp only [laws_FnExtensionsAccepted.l0] at H
           by_cases c31 : x68_3 < (t1071.length : Int)
           ·rw [if_pos c31] at H
            have c31b0 : decide (x68_3 < (t1071.length : Int)) = true := decide_eq_true c31
            clear c31
            by_cases c32 : 0 ≤ x68_3
            ·rw [if_pos c32] at H
             have c32b0 : decide (0 ≤ x68_3) = true := decide_eq_true c32
             clear c32
             by_cases c33 : x68_3 < (t1071.length : Int)
             ·rw [if_pos c33] at H
              have c33b0 : decide (x68_3 < (t1071.length : Int)) = true := decide_eq_true c33
              clear c33
              have c34b0 := eq_true (of_decide_eq_true (by first | (with_reducible assumption) | assumption) : 0 ≤ x68_3)
              by_cases c35 : x68_3 ≤ (t1071.length : Int)
              ·rw [if_pos c35] at H
               have c35b0 := eq_true c35
               have c35b1 : decide (x68_3 ≤ (t1071.length : Int)) = true := decide_eq_true c35
               clear c35
               obtain ⟨y1085, hy1085⟩ : ∃ y_ : List Int, y_ = (t1071.take (x68_3 : Int).toNat) := ⟨_, rfl⟩
               replace H : (laws_FnExtensionsAccepted.l1 k3 t1071 (rd t1071 x68_3) t1071 (t1071.length : Int) x68_3 y1085 (y1085.length : Int) 0 t1067 t1068) = some r := by first | (rw [hy1085]; with_reducible exact H) | (have H2_ := (Option.bind_some _ _).symm.trans H; rw [hy1085]; with_reducible exact H2_) | (have H2_ := (Option.bind_some _ _).symm.trans H; with_reducible exact H2_) | with_reducible exact H | (rw [hy1085]; exact H) | exact H
               have Ny1085 := Aside0.mk hy1085
               clear hy1085
               have H' := Aside0.mk H
               clear H
               have p1084 : 0 ≤ (x68_3 : Int) := of_decide_eq_true (by first | (with_reducible assumption) | assumption)
               have q1084 : x68_3 < (t1071.length : Int) := of_decide_eq_true (by first | (with_reducible assumption) | assumption)
               obtain ⟨ad1084, e1084, hx1084_0⟩ := Kd.at_int (Kd.R_reads' HO_66.out).2.2 x68_3 p1084 q1084
               cases e1084
               replace p1084 := eq_true p1084
               replace q1084 := eq_true q1084
               have q36 : (x68_3 : Int) ≤ ((t1071.length : Int) : Int) := of_decide_eq_true (by first | (with_reducible assumption) | assumption)
               obtain ⟨i036, hi036, _, hsz36, _⟩ := info_parts info3
               have hroom36 : t1071.length ≤ co13 := (Kd.R_reads' HO_6.out).2.1
               have hC36 : Kd.C (Kd.int .i64) _ (some ad1084) t1071.length t1071 := (Kd.R_reads' HO_6.out).2.2
               have hcut36 := cut_to (P := Tryd.prog) 22 3 .i64 Tryd.underlying22 hi036 (some ad1084) t1071.length co13 x68_3 (of_decide_eq_true (by first | (with_reducible assumption) | assumption)) q36 hroom36
               have hr36 := Kd.C_take (m := (x68_3 : Int).toNat) hC36 (by omega)
               have hy36 : y1085.length = (x68_3 : Int).toNat := (by rw [Ny1085.out, List.length_take]; omega)
               rw [← Ny1085.out] at hr36
               rw [← hy36] at hcut36
               have HR1088 := Aside0.mk hr36
               have HC1088 := Aside0.mk (show y1085.length ≤ co13 from by omega)
               clear hr36 hC36 hroom36 hi036 hsz36
               have KY36 := Aside0.mk hy36
               clear hy36
               have KL36 := Aside0.mk (show (x68_3 : Int).toNat ≤ t1071.length from by omega)
               replace q36 := eq_true q36
               go_wp2
               go_loopg [77] k3 (fun kq v77 w' => ∃ (x77_4 : Int), v77 = .int .i64 x77_4 ∧ Aside0 (laws_FnExtensionsAccepted.l1 kq t1071 (rd t1071 x68_3) t1071 (t1071.length : Int) x68_3 y1085 (y1085.length : Int) x77_4 t1067 t1068 = some r) ∧ Aside0 (kq ≤ k3) ∧ Aside0 (Kd.R (Kd.int .i64) 3 w' w.heap.size (fun k_ => some k_ ≠ ((.slice Ao12 t1068.length co12) : Value).ownBlock) (.slice (some ad1084) t1071.length co13) t1071) ∧ Aside0 (Kd.R (Kd.int .i64) 3 w' w.heap.size (fun k_ => some k_ ≠ ((.slice Ao12 t1068.length co12) : Value).ownBlock) (.slice (some ad1084) t1071.length co13) t1071) ∧ Aside0 (Kd.R (Kd.int .i64) 3 w' w.heap.size (fun k_ => some k_ ≠ ((.slice (some ad1084) t1071.length co13) : Value).ownBlock ∧ some k_ ≠ ((.slice (some ad1084) t1071.length co13) : Value).ownBlock) (.slice Ao12 t1068.length co12) t1068) ∧ Aside0 (w'.heap[gb1074]? = some (.cells #[.int .i64 t1067, (.slice Ao12 t1068.length co12)] 26 (0, 0))) ∧ Aside0 (Kd.C (Kd.int .i64) w' (some ad1084) y1085.length y1085) ∧ Aside0 (Below w.heap.size w w'))
               case atStart => exact ⟨(0), (by first | rfl | (simp; done) | (simp [*]; done)), H', ⟨Nat.le_refl _⟩, ⟨by (with_reducible repeat (first | apply Kd.R_alloc | apply Kd.R_drewN | apply Kd.R_drew)); exact HO_6.out⟩, ⟨by (with_reducible repeat (first | apply Kd.R_alloc | apply Kd.R_drewN | apply Kd.R_drew)); exact HO_66.out⟩, ⟨by (with_reducible repeat (first | apply Kd.R_alloc | apply Kd.R_drewN | apply Kd.R_drew)); exact HO_1075001.out⟩, ⟨by (with_reducible repeat (first | refine blk_drewN ?_ _ | refine blk_drew ?_ | refine blk_alloc ?_ _)); exact BK1074.out⟩, ⟨by repeat (first | (with_reducible exact HR1088.out) | (with_reducible refine Kd.C_alloc ?_ _) | (with_reducible refine Kd.C_drewN ?_ _) | (with_reducible refine Kd.C_drew ?_) | exact HR1088.out)⟩, ⟨by repeat (first | (with_reducible first | exact HB.out | apply below_alloc | apply pw_below_drewN | apply below_drew1 | refine below_set ?_ GE1074.out) | exact HB.out)⟩⟩
               case round =>
                clear H'
                try clear c1
                try clear p1
                try clear q1
                try clear hx1
                try clear c2
                try clear p2
                try clear c3
                try clear q3
                try clear c4
                try clear c5
                try clear c9
                try clear p10
                try clear q10
                try clear hx10
                try clear c17
                try clear c17b0
                try clear c17b1
                try clear c17b2
                try clear c18
                try clear c19
                try clear c20
                try clear c24
                try clear c26
                try clear c30
                try clear c31
                try clear c31b0
                try clear c32
                try clear c32b0
                try clear c33
                try clear c33b0
                try clear c34
                try clear c34b0
                try clear c35
                try clear c35b0
                try clear c35b1
                try clear q36
                try clear hcz11_0
                try clear hcz11_1
                try clear hcz15_0
                try clear hcz15_1
                try clear hcz22_0
                try clear hcz22_1
                try clear hcz29_0
                try clear hcz29_1
                try clear hfz11_0
                try clear hfz11_1
                try clear hfz15_0
                try clear hfz15_1
                try clear hfz22_0
                try clear hfz22_1
                try clear hfz29_0
                try clear hfz29_1
                try clear hx1084_0
                try clear p1084
                try clear p2
                try clear q1084
                try clear q36
                obtain ⟨x77_4, rfl, HA, HK4, HO_6, HO_66, HO_1075001, BK1074, HR1088, HB⟩ := hrel
                cases gk with
                | zero => exact absurd HA.out (by simp [laws_FnExtensionsAccepted.l1])
                | succ k4 =>
                 have H := HA.out
                 clear HA
                 simp only [laws_FnExtensionsAccepted.l1] at H
                 by_cases c37 : x77_4 < (y1085.length : Int)
                 ·rw [if_pos c37] at H
                  have c37b0 : decide (x77_4 < (y1085.length : Int)) = true := decide_eq_true c37
                  clear c37
                  by_cases c38 : 0 ≤ x77_4
                  ·rw [if_pos c38] at H
                   have c38b0 : decide (0 ≤ x77_4) = true := decide_eq_true c38
                   clear c38
                   by_cases c39 : x77_4 < (y1085.length : Int)
                   ·rw [if_pos c39] at H
                    have c39b0 : decide (x77_4 < (y1085.length : Int)) = true := decide_eq_true c39
                    clear c39
                    by_cases c40 : (rd t1071 x68_3) = (rd y1085 x77_4)
                    ·rw [if_pos c40] at H
                     have c40b0 : ((rd t1071 x68_3) == (rd y1085 x77_4)) = true := beq_iff_eq.mpr c40
                     have c40b1 : ((rd t1071 x68_3) != (rd y1085 x77_4)) = false := bne_eq_false_iff_eq.mpr c40
                     clear c40
                     obtain rfl := Option.some.inj H
                     have p1089 : 0 ≤ (x77_4 : Int) := of_decide_eq_true (by first | (with_reducible assumption) | assumption)
                     have q1089 : x77_4 < (y1085.length : Int) := of_decide_eq_true (by first | (with_reducible assumption) | assumption)
                     obtain ⟨ad1089, e1089, hx1089_0⟩ := Kd.at_int HR1088.out x77_4 p1089 q1089
                     obtain rfl : ad1084 = ad1089 := (by injection e1089)
                     (try replace hx1089_0 := (HB.out.cell (World.block_lt_of_cell? w _ hx1089_0)).trans hx1089_0)
                     replace p1089 := eq_true p1089
                     replace q1089 := eq_true q1089
                     go_wp2
                     go_ret
                     exact ⟨by first | rfl | (simp [errW_none, errW_some] <;> rfl) | (simp [*, errW_none, errW_some] <;> rfl), by repeat (first | (with_reducible first | exact HB.out | apply below_alloc | apply pw_below_drewN | apply below_drew1 | refine below_set ?_ GE1074.out) | exact HB.out)⟩
                    ·rw [if_neg c40] at H
                     have c40b0 : ((rd t1071 x68_3) == (rd y1085 x77_4)) = false := beq_eq_false_iff_ne.mpr c40
                     have c40b1 : ((rd t1071 x68_3) != (rd y1085 x77_4)) = true := bne_iff_ne.mpr c40
                     by_cases c41 : 0 ≤ (rd t1071 x68_3)
                     ·rw [if_pos c41] at H
                      have c41b0 : decide (0 ≤ (rd t1071 x68_3)) = true := decide_eq_true c41
                      clear c41
                      by_cases c42 : (rd t1071 x68_3) < (t1068.length : Int)
                      ·rw [if_pos c42] at H
                       have c42b0 : decide ((rd t1071 x68_3) < (t1068.length : Int)) = true := decide_eq_true c42
                       clear c42
                       replace H := Option.bind_eq_some_iff.mp H
                       obtain ⟨t1091, A430, H⟩ := H
                       replace H : (if t1091 = true then (some false) else (laws_FnExtensionsAccepted.l1 k4 t1071 (rd t1071 x68_3) t1071 (t1071.length : Int) x68_3 y1085 (y1085.length : Int) (wrap64 (x77_4 + 1)) t1067 t1068)) = some r := H
                       have A43 := Aside0.mk A430
                       clear A430
                       by_cases c44 : t1091 = true
                       ·subst c44
                        have H1 : (some false) = some r := by rw [if_pos rfl] at H; exact H
                        clear H
                        have H := H1
                        clear H1
                        obtain rfl := Option.some.inj H
                        have p1089 : 0 ≤ (x77_4 : Int) := of_decide_eq_true (by first | (with_reducible assumption) | assumption)
                        have q1089 : x77_4 < (y1085.length : Int) := of_decide_eq_true (by first | (with_reducible assumption) | assumption)
                        obtain ⟨ad1089, e1089, hx1089_0⟩ := Kd.at_int HR1088.out x77_4 p1089 q1089
                        obtain rfl : ad1084 = ad1089 := (by injection e1089)
                        (try replace hx1089_0 := (HB.out.cell (World.block_lt_of_cell? w _ hx1089_0)).trans hx1089_0)
                        replace p1089 := eq_true p1089
                        replace q1089 := eq_true q1089
                        have hcz45_0 : wr.cell? ⟨gb1074, 0, none⟩ = some (.int .i64 t1067) := (blk_cell BK1074.out 0).trans rfl
                        have hcz45_1 : wr.cell? ⟨gb1074, 1, none⟩ = some (.slice Ao12 t1068.length co12) := (blk_cell BK1074.out 1).trans rfl
                        have hfz45_0 := blk_frozen BK1074.out 0
                        have hfz45_1 := blk_frozen BK1074.out 1
                        have p1090 : 0 ≤ ((rd t1071 x68_3) : Int) := of_decide_eq_true (by first | (with_reducible assumption) | assumption)
                        have q1090 : (rd t1071 x68_3) < (t1068.length : Int) := of_decide_eq_true (by first | (with_reducible assumption) | assumption)
                        obtain ⟨ad1090, e1090, hx1090_0⟩ := Kd.at_int (Kd.R_reads' HO_1075001.out).2.2 (rd t1071 x68_3) p1090 q1090
                        cases e1090
                        replace p1090 := eq_true p1090
                        replace q1090 := eq_true q1090
                        go_wp2_with (first | (go_at_call 35; (with_reducible refine (laws_pIn.calls (rd t1068 (rd t1071 x68_3)) (rd y1085 x77_4) true _ A43.out).mono ?_); rintro e w' ⟨rfl, ⟨nd, rfl⟩⟩))
                        go_ret
                        exact ⟨by first | rfl | (simp [errW_none, errW_some] <;> rfl) | (simp [*, errW_none, errW_some] <;> rfl), by repeat (first | (with_reducible first | exact HB.out | apply below_alloc | apply pw_below_drewN | apply below_drew1 | refine below_set ?_ GE1074.out) | exact HB.out)⟩
                       ·replace c44 := Bool.eq_false_iff.mpr c44
                        subst c44
                        have H1 : (laws_FnExtensionsAccepted.l1 k4 t1071 (rd t1071 x68_3) t1071 (t1071.length : Int) x68_3 y1085 (y1085.length : Int) (wrap64 (x77_4 + 1)) t1067 t1068) = some r := by rw [if_neg (show ¬ (false = true) by decide)] at H; exact H
                        clear H
                        have H := H1
                        clear H1
                        have H' := Aside0.mk H
                        clear H
                        have p1089 : 0 ≤ (x77_4 : Int) := of_decide_eq_true (by first | (with_reducible assumption) | assumption)
                        have q1089 : x77_4 < (y1085.length : Int) := of_decide_eq_true (by first | (with_reducible assumption) | assumption)
                        obtain ⟨ad1089, e1089, hx1089_0⟩ := Kd.at_int HR1088.out x77_4 p1089 q1089
                        obtain rfl : ad1084 = ad1089 := (by injection e1089)
                        (try replace hx1089_0 := (HB.out.cell (World.block_lt_of_cell? w _ hx1089_0)).trans hx1089_0)
                        replace p1089 := eq_true p1089
                        replace q1089 := eq_true q1089
                        have hcz46_0 : wr.cell? ⟨gb1074, 0, none⟩ = some (.int .i64 t1067) := (blk_cell BK1074.out 0).trans rfl
                        have hcz46_1 : wr.cell? ⟨gb1074, 1, none⟩ = some (.slice Ao12 t1068.length co12) := (blk_cell BK1074.out 1).trans rfl
                        have hfz46_0 := blk_frozen BK1074.out 0
                        have hfz46_1 := blk_frozen BK1074.out 1
                        have p1090 : 0 ≤ ((rd t1071 x68_3) : Int) := of_decide_eq_true (by first | (with_reducible assumption) | assumption)
                        have q1090 : (rd t1071 x68_3) < (t1068.length : Int) := of_decide_eq_true (by first | (with_reducible assumption) | assumption)
                        obtain ⟨ad1090, e1090, hx1090_0⟩ := Kd.at_int (Kd.R_reads' HO_1075001.out).2.2 (rd t1071 x68_3) p1090 q1090
                        cases e1090
                        replace p1090 := eq_true p1090
                        replace q1090 := eq_true q1090
                        go_wp2_with (first | (go_at_call 35; (with_reducible refine (laws_pIn.calls (rd t1068 (rd t1071 x68_3)) (rd y1085 x77_4) false _ A43.out).mono ?_); rintro e w' ⟨rfl, ⟨nd, rfl⟩⟩))
                        go_roundg k4
                        case measure => have := HJ7.out; have := HJ20.out; have := HK3.out; have := HK4.out; omega
                        case rel => exact ⟨(wrap64 (x77_4 + 1)), (by first | rfl | (simp; done) | (simp [*]; done)), H', ⟨by have := HJ7.out; have := HJ20.out; have := HK3.out; have := HK4.out; omega⟩, ⟨by (with_reducible repeat (first | apply Kd.R_alloc | apply Kd.R_drewN | apply Kd.R_drew)); exact HO_6.out⟩, ⟨by (with_reducible repeat (first | apply Kd.R_alloc | apply Kd.R_drewN | apply Kd.R_drew)); exact HO_66.out⟩, ⟨by (with_reducible repeat (first | apply Kd.R_alloc | apply Kd.R_drewN | apply Kd.R_drew)); exact HO_1075001.out⟩, ⟨by (with_reducible repeat (first | refine blk_drewN ?_ _ | refine blk_drew ?_ | refine blk_alloc ?_ _)); exact BK1074.out⟩, ⟨by repeat (first | (with_reducible exact HR1088.out) | (with_reducible refine Kd.C_alloc ?_ _) | (with_reducible refine Kd.C_drewN ?_ _) | (with_reducible refine Kd.C_drew ?_) | exact HR1088.out)⟩, ⟨by repeat (first | (with_reducible first | exact HB.out | apply below_alloc | apply pw_below_drewN | apply below_drew1 | refine below_set ?_ GE1074.out) | exact HB.out)⟩⟩
                      ·rw [if_neg c42] at H
                       exact absurd H (by simp)
                     ·rw [if_neg c41] at H
                      exact absurd H (by simp)
                   ·rw [if_neg c39] at H
                    exact absurd H (by simp)
                  ·rw [if_neg c38] at H
                   exact absurd H (by simp)
                 ·rw [if_neg c37] at H
                  have c37b0 : decide (x77_4 < (y1085.length : Int)) = false := decide_eq_false c37
                  clear c37
                  have H' := Aside0.mk H
                  clear H
                  go_wp2
                  go_roundg k4
                  case measure => have := HJ7.out; have := HJ20.out; have := HK3.out; have := HK4.out; omega
                  case rel => exact ⟨(wrap64 (x68_3 + 1)), (by first | rfl | (simp; done) | (simp [*]; done)), H', ⟨by have := HJ7.out; have := HJ20.out; have := HK3.out; have := HK4.out; omega⟩, ⟨by (with_reducible repeat (first | apply Kd.R_alloc | apply Kd.R_drewN | apply Kd.R_drew)); exact HO_6.out⟩, ⟨by (with_reducible repeat (first | apply Kd.R_alloc | apply Kd.R_drewN | apply Kd.R_drew)); exact HO_66.out⟩, ⟨by (with_reducible repeat (first | apply Kd.R_alloc | apply Kd.R_drewN | apply Kd.R_drew)); exact HO_1075001.out⟩, ⟨by (with_reducible repeat (first | refine blk_drewN ?_ _ | refine blk_drew ?_ | refine blk_alloc ?_ _)); exact BK1074.out⟩, ⟨by repeat (first | (with_reducible first | exact HB.out | apply below_alloc | apply pw_below_drewN | apply below_drew1 | refine below_set ?_ GE1074.out) | exact HB.out)⟩⟩
              ·rw [if_neg c35] at H
               exact absurd H (by simp)
             ·rw [if_neg c33] at H
              exact absurd H (by simp)
            ·rw [if_neg c32] at H
             exact absurd H (by simp)
           ·rw [if_neg c31] at H
            have c31b0 : decide (x68_3 < (t1071.length : Int)) = false := decide_eq_false c31
            clear c31
            obtain rfl := Option.some.inj H
            go_wp2
            go_ret
            exact ⟨by first | rfl | (simp [errW_none, errW_some] <;> rfl) | (simp [*, errW_none, errW_some] <;> rfl), by repeat (first | (with_reducible first | exact HB.out | apply below_alloc | apply pw_below_drewN | apply below_drew1 | refine below_set ?_ GE1074.out) | exact HB.out)⟩
     ·replace c19 := Bool.eq_false_iff.mpr c19
      subst c19
      have H1 : (some true) = some r := by rw [if_neg (show ¬ (false = true) by decide)] at H; exact H
      clear H
      have H := H1
      clear H1
      obtain rfl := Option.some.inj H
      go_wp2
      go_ret
      exact ⟨by first | rfl | (simp [errW_none, errW_some] <;> rfl) | (simp [*, errW_none, errW_some] <;> rfl), by repeat (first | (with_reducible first | exact HB.out | apply below_alloc | apply pw_below_drewN | apply below_drew1 | refine below_set ?_ GE1074.out) | exact HB.out)⟩
def laws_FnExtensionsAccepted.Pure : Prop := ∀ (l0 : List Int) (l1 : List Int), l0.length ≤ maxLen → l0.length * 1 ≤ 140737488351232 → (∀ x ∈ l0, (Lit.int .u8 x).wf = true) → l1.length ≤ maxLen → l1.length * 1 ≤ 140737488351232 → (∀ x ∈ l1, (Lit.int .u8 x).wf = true) → ∃ k, laws_FnExtensionsAccepted.f k l0 l1 = some true
theorem laws_FnExtensionsAccepted.walk (P : laws_FnExtensionsAccepted.Pure) (a0 : Option Addr) (len0 cap0 : Nat) (z0 : List Int) (a1 : Option Addr) (len1 cap1 : Nat) (z1 : List Int) (w : World) (w0 : (a0 = none ∧ len0 = 0 ∧ cap0 = 0 ∧ z0 = []) ∨ ∃ x, a0 = some x ∧ len0 ≤ cap0 ∧ cap0 ≤ maxLen ∧ z0.length = cap0 ∧ (∀ i, i < z0.length → w.cell? (x.add i) = some (.int .u8 (z0.getD i 0))) ∧ ∀ n ∈ z0, (Lit.int .u8 n).wf = true) (y0 : len0 * 1 ≤ 140737488351232) (w1 : (a1 = none ∧ len1 = 0 ∧ cap1 = 0 ∧ z1 = []) ∨ ∃ x, a1 = some x ∧ len1 ≤ cap1 ∧ cap1 ≤ maxLen ∧ z1.length = cap1 ∧ (∀ i, i < z1.length → w.cell? (x.add i) = some (.int .u8 (z1.getD i 0))) ∧ ∀ n ∈ z1, (Lit.int .u8 n).wf = true) (y1 : len1 * 1 ≤ 140737488351232) (hT : TabOK w) :
 Calls Tryd.prog 9 #[.slice a0 len0 cap0, .slice a1 len1 cap1] w fun e w' => e = .returned (.bool true) ∧ Below w.heap.size w w' := by
 obtain ⟨l0, rfl, hr0, hm0, hw0, hc0⟩ := ReadsInt.ofRowC w0
 obtain ⟨l1, rfl, hr1, hm1, hw1, hc1⟩ := ReadsInt.ofRowC w1
 obtain ⟨k, h⟩ := P l0 l1 hm0 y0 hw0 hm1 y1 hw1
 refine (laws_FnExtensionsAccepted.calls k _ _ l0 _ _ l1 true w (Kd.C_of_reads (d := (0 : Int)) (h1 := fun _ => rfl) hr0) hc0 (Kd.C_of_reads (d := (0 : Int)) (h1 := fun _ => rfl) hr1) hc1 hT h).mono ?_
 rintro e w' ⟨rfl, hd⟩
 exact ⟨rfl, hd⟩
end Go.Proofs.YtjdkcafpgebjfaaDoor.P
namespace Go.Proofs.YtjdkcafpgebjfaaDoor.M
open Go.RowKit Go.Proofs.YtjdkcafpgebjfaaDoorW.PrintMore Go.Proofs.YtjdkcafpgebjfaaDoorW.PrintLast Go.Proofs.YtjdkcafpgebjfaaDoorW.PrintWords
theorem i64_small (n : Nat) (h : n < 9223372036854775808) : IntKind.i64.wrap (n : Int) = (n : Int) := by
  simp [IntKind.wrap, IntKind.signed, IntKind.bits]
  omega
theorem wrap64_id (x : Int) (h0 : -9223372036854775808 ≤ x) (h1 : x ≤ 9223372036854775807) : wrap64 x = x := by
  unfold wrap64
  omega
theorem ofInt64 (a : Nat) (ha : a < 18446744073709551616) : (BitVec.ofInt 64 (a : Int)).toNat = a := by
  rw [BitVec.ofInt_natCast, BitVec.toNat_ofNat]; exact Nat.mod_eq_of_lt (by omega)
theorem and_i64 (a b : Nat) (ha : a < 9223372036854775808) (hb : b < 9223372036854775808) : Go.bits .and .i64 (a : Int) (b : Int) = ((a &&& b : Nat) : Int) := by
  have hx : a &&& b < 2 ^ 63 := Nat.and_lt_two_pow _ (by omega)
  show IntKind.i64.wrap ((BitVec.ofInt 64 (a : Int) &&& BitVec.ofInt 64 (b : Int)).toNat : Int) = _
  rw [BitVec.toNat_and, ofInt64 a (by omega), ofInt64 b (by omega), i64_small _ (by omega)]
theorem or_i64 (a b : Nat) (ha : a < 9223372036854775808) (hb : b < 9223372036854775808) : Go.bits .or .i64 (a : Int) (b : Int) = ((a ||| b : Nat) : Int) := by
  have hx : a ||| b < 2 ^ 63 := Nat.or_lt_two_pow (by omega) (by omega)
  show IntKind.i64.wrap ((BitVec.ofInt 64 (a : Int) ||| BitVec.ofInt 64 (b : Int)).toNat : Int) = _
  rw [BitVec.toNat_or, ofInt64 a (by omega), ofInt64 b (by omega), i64_small _ (by omega)]
def diff (a b : Nat) : Nat := a &&& (a ^^^ b)
theorem testBit_diff (a b i : Nat) : (diff a b).testBit i = (a.testBit i && !b.testBit i) := by
  unfold diff
  rw [Nat.testBit_and, Nat.testBit_xor]
  cases a.testBit i <;> cases b.testBit i <;> rfl
theorem andNot_i64 (a b : Nat) (ha : a < 9223372036854775808) (hb : b < 9223372036854775808) : Go.bits .andNot .i64 (a : Int) (b : Int) = ((diff a b : Nat) : Int) := by
  have hx : diff a b < 2 ^ 63 := Nat.lt_of_le_of_lt Nat.and_le_left (by omega)
  show IntKind.i64.wrap ((BitVec.ofInt 64 (a : Int) &&& ~~~ BitVec.ofInt 64 (b : Int)).toNat : Int) = _
  have e : (BitVec.ofInt 64 (a : Int) &&& ~~~ BitVec.ofInt 64 (b : Int)).toNat = diff a b := by
    apply Nat.eq_of_testBit_eq
    intro i
    rw [BitVec.toNat_and, Nat.testBit_and, testBit_diff, ofInt64 a (by omega)]
    by_cases hi : i < 64
    · rw [show (~~~ BitVec.ofInt 64 (b : Int)).toNat.testBit i = !(BitVec.ofInt 64 (b : Int)).toNat.testBit i from by
        rw [BitVec.testBit_toNat, BitVec.testBit_toNat, BitVec.getLsbD_not]; simp [hi], ofInt64 b (by omega)]
    · rw [Nat.testBit_lt_two_pow (x := a) (i := i) (Nat.lt_of_lt_of_le (by omega : a < 2 ^ 64) (Nat.pow_le_pow_right (by decide) (by omega)))]
      rfl
  rw [e, i64_small _ (by omega)]
theorem shl1 (j : Nat) (h : j ≤ 62) : shl .i64 1 (j : Int) = ((2 ^ j : Nat) : Int) := by
  unfold shl
  have h2 : (2 : Nat) ^ j < 9223372036854775808 := Nat.lt_of_le_of_lt (Nat.pow_le_pow_right (by decide) h) (by decide)
  rw [Int.toNat_natCast, Nat.min_eq_left (by show j ≤ 64; omega), Int.one_mul]
  have := i64_small (2 ^ j) h2
  rwa [Int.natCast_pow] at this ⊢
theorem shr_nat (a j : Nat) (h : j ≤ 64) : shr .i64 (a : Int) (j : Int) = ((a / 2 ^ j : Nat) : Int) := by
  unfold shr
  rw [Int.toNat_natCast, Nat.min_eq_left (by exact h)]
  simp
def bit (s : Int) (j : Nat) : Bool := s.toNat.testBit j
theorem bit_cast (a j : Nat) : bit (a : Int) j = a.testBit j := by simp [bit]
theorem and_one (a : Nat) (j : Nat) : ((a / 2 ^ j) &&& 1 : Nat) = if a.testBit j then 1 else 0 := by
  rw [Nat.and_one_is_mod, Nat.testBit_eq_decide_div_mod_eq]
  rcases Nat.mod_two_eq_zero_or_one (a / 2 ^ j) with h | h <;> simp [h]
theorem has_and (s : Int) (j : Nat) (h0 : 0 ≤ s) (h1 : s < 9223372036854775808) (hj : j ≤ 64) : (Go.bits .and .i64 (shr .i64 s (j : Int)) 1 == 1) = bit s j := by
  obtain ⟨a, rfl⟩ := Int.eq_ofNat_of_zero_le h0
  have hl : a / 2 ^ j < 9223372036854775808 := Nat.lt_of_le_of_lt (Nat.div_le_self _ _) (by omega)
  rw [shr_nat a j hj, show (1 : Int) = ((1 : Nat) : Int) from rfl, and_i64 _ 1 hl (by decide), and_one, bit_cast]
  cases a.testBit j <;> rfl
theorem has_mod (s : Int) (j : Nat) (h0 : 0 ≤ s) (hj : j ≤ 64) : (Int.tmod (shr .i64 s (j : Int)) 2 == 1) = bit s j := by
  obtain ⟨a, rfl⟩ := Int.eq_ofNat_of_zero_le h0
  rw [shr_nat a j hj, bit_cast, Nat.testBit_eq_decide_div_mod_eq, Int.tmod_eq_emod_of_nonneg (Int.natCast_nonneg _)]
  rcases Nat.mod_two_eq_zero_or_one (a / 2 ^ j) with h | h
  · rw [show ((a / 2 ^ j : Nat) : Int) % 2 = 0 from by omega]; simp [h]
  · rw [show ((a / 2 ^ j : Nat) : Int) % 2 = 1 from by omega]; simp [h]
def setOf : Nat → (Nat → Bool) → Nat
  | 0, _ => 0
  | n + 1, q => setOf n q ||| (if q n then 2 ^ n else 0)
theorem testBit_setOf (n : Nat) (q : Nat → Bool) (j : Nat) : (setOf n q).testBit j = (decide (j < n) && q j) := by
  induction n with
  | zero => simp [setOf]
  | succ n ih =>
    unfold setOf
    rw [Nat.testBit_or, ih]
    by_cases hq : q n
    · rw [if_pos hq, Nat.testBit_two_pow]
      by_cases h : n = j
      · subst h; simp [hq]
      · have : (j < n + 1) ↔ j < n := by omega
        simp [h, this]
    · rw [if_neg hq]
      by_cases h : n = j
      · subst h; simp [hq]
      · have : (j < n + 1) ↔ j < n := by omega
        simp [this]
theorem setOf_lt (n : Nat) (q : Nat → Bool) : setOf n q < 2 ^ n := by
  induction n with
  | zero => simp [setOf]
  | succ n ih =>
    unfold setOf
    have h1 : setOf n q < 2 ^ (n + 1) := Nat.lt_of_lt_of_le ih (Nat.pow_le_pow_right (by decide) (by omega))
    refine Nat.or_lt_two_pow h1 ?_
    split
    · exact Nat.pow_lt_pow_right (by decide) (by omega)
    · exact Nat.two_pow_pos _
theorem lt62 {n s : Nat} (h : s < 2 ^ n) (hn : n ≤ 62) : s < 9223372036854775808 := Nat.lt_of_lt_of_le h (Nat.le_trans (Nat.pow_le_pow_right (by decide) hn) (by decide))
theorem setOf_62 (n : Nat) (q : Nat → Bool) (hn : n ≤ 62) : setOf n q < 9223372036854775808 := lt62 (setOf_lt n q) hn
end Go.Proofs.YtjdkcafpgebjfaaDoor.M
namespace Go.Proofs.YtjdkcafpgebjfaaDoor.M
open Go.RowKit Go.Proofs.YtjdkcafpgebjfaaDoorW.PrintMore Go.Proofs.YtjdkcafpgebjfaaDoorW.PrintLast Go.Proofs.YtjdkcafpgebjfaaDoorW.PrintWords
theorem Ev.up {α : Type} {r : α} (G : Nat → Nat → Option α) (n : Nat) (step : ∀ i, i < n → Ev (G (i + 1)) r → Ev (G i) r) (stop : Ev (G n) r) : Ev (G 0) r := by
  have key : ∀ m, m ≤ n → Ev (G (n - m)) r := by
    intro m
    induction m with
    | zero => intro _; exact stop
    | succ m ih =>
      intro hm
      have h := step (n - (m + 1)) (by omega)
      rw [show n - (m + 1) + 1 = n - m from by omega] at h
      exact h (ih (by omega))
  have := key n (Nat.le_refl _)
  rwa [Nat.sub_self] at this
theorem Ev.from {α : Type} {r : α} (G : Nat → Nat → Option α) (n i : Nat) (hi : i ≤ n) (step : ∀ i, i < n → Ev (G (i + 1)) r → Ev (G i) r) (stop : Ev (G n) r) : Ev (G i) r := by
  have h := Ev.up (fun j => G (i + j)) (n - i) (fun j hj h => step (i + j) (by omega) h) (by rw [show i + (n - i) = n from by omega]; exact stop)
  exact h
def allB (n : Nat) (p : Nat → Bool) : Bool := (List.range n).all p
theorem allB_iff {n : Nat} {p : Nat → Bool} : allB n p = true ↔ ∀ j, j < n → p j = true := by simp [allB]
theorem allB_false {n : Nat} {p : Nat → Bool} : allB n p = false ↔ ∃ j, j < n ∧ p j = false := by simp [allB]
theorem least_false {n : Nat} {p : Nat → Bool} (h : ∃ j, j < n ∧ p j = false) : ∃ j, j < n ∧ p j = false ∧ ∀ i, i < j → p i = true := by
  obtain ⟨j, hj, hp⟩ := h
  induction j using Nat.strongRecOn with
  | _ j ih =>
    by_cases hl : ∃ i, i < j ∧ p i = false
    · obtain ⟨i, hi, hpi⟩ := hl
      exact ih i hi (by omega) hpi
    · refine ⟨j, hj, hp, fun i hi => ?_⟩
      cases hc : p i with
      | true => rfl
      | false => exact absurd ⟨i, hi, hc⟩ hl
theorem Ev.all (G : Nat → Nat → Option Bool) (n : Nat) (p : Nat → Bool) (yes : ∀ i r, i < n → p i = true → Ev (G (i + 1)) r → Ev (G i) r) (no : ∀ i, i < n → p i = false → Ev (G i) false) (stop : Ev (G n) true) :
    Ev (G 0) (allB n p) := by
  cases h : allB n p with
  | true =>
    have h := allB_iff.1 h
    exact Ev.up G n (fun i hi => yes i true hi (h i hi)) stop
  | false =>
    obtain ⟨j, hj, hp, hl⟩ := least_false (allB_false.1 h)
    exact Ev.up G j (fun i hi => yes i false (by omega) (hl i hi)) (no j hj hp)
theorem Ev.const {α : Type} {x : Option α} {r : α} (h : x = some r) : Ev (fun _ => x) r := ⟨0, fun _ _ => h⟩
theorem Ev.to {α : Type} {g : Nat → Option α} {r r' : α} (h : Ev g r) (e : r = r') : Ev g r' := e ▸ h
theorem rd_nat (l : List Int) (i : Nat) : rd l (i : Int) = l.getD i 0 := by simp [rd]
theorem rd_get (l : List Int) (i : Nat) (h : i < l.length) : rd l (i : Int) = l[i] := by simp [rd, h]
theorem next64 (i n : Nat) (h : i < n) (hn : n ≤ 140737488355328) : wrap64 ((i : Int) + 1) = ((i + 1 : Nat) : Int) := by unfold wrap64; omega
theorem list_ext_getD {l l' : List Int} (hl : l.length = l'.length) (h : ∀ i, i < l.length → l.getD i 0 = l'.getD i 0) : l = l' := by
  apply List.ext_getElem hl
  intro i h1 h2
  have := h i h1
  simpa [h1, h2] using this
end Go.Proofs.YtjdkcafpgebjfaaDoor.M
namespace Go.Proofs.YtjdkcafpgebjfaaDoor.M
open Go.RowKit Go.Proofs.YtjdkcafpgebjfaaDoorW.PrintMore Go.Proofs.YtjdkcafpgebjfaaDoorW.PrintLast Go.Proofs.YtjdkcafpgebjfaaDoorW.PrintWords Go.Proofs.YtjdkcafpgebjfaaDoor.P
def elems (n s : Nat) : List Nat := (List.range n).filter fun j => s.testBit j
theorem mem_elems {n s j : Nat} : j ∈ elems n s ↔ j < n ∧ s.testBit j = true := by simp [elems]
theorem elems_zero (n : Nat) : elems n 0 = [] := by simp [elems]
def ints (l : List Nat) : List Int := l.map fun (j : Nat) => (j : Int)
theorem ints_length (l : List Nat) : (ints l).length = l.length := by simp [ints]
theorem elems_length_le (n s : Nat) : (elems n s).length ≤ n := by
  unfold elems
  exact Nat.le_trans (List.length_filter_le _ _) (by simp)
theorem filter_range_split (n c : Nat) (h : c < n) (p : Nat → Bool) : (List.range n).filter p = (List.range c).filter p ++ ((if p c then [c] else []) ++ (List.range' (c + 1) (n - (c + 1))).filter p) := by
  have e : List.range n = List.range c ++ ([c] ++ List.range' (c + 1) (n - (c + 1))) := by
    rw [List.range_eq_range', List.range_eq_range']
    have h1 : n = c + (1 + (n - (c + 1))) := by omega
    have e1 : List.range' 0 n = List.range' 0 c ++ List.range' c (1 + (n - (c + 1))) := by
      have := List.range'_append_1 (s := 0) (m := c) (n := 1 + (n - (c + 1)))
      rw [Nat.zero_add] at this
      rw [this, ← h1]
    rw [e1, Nat.add_comm 1, List.range'_succ]
    rfl
  rw [e, List.filter_append, List.filter_append]
  congr 1
  cases hp : p c <;> simp [hp]
theorem elems_least (n s c m : Nat) (hs : s = 2 ^ c * (2 * m + 1)) (hn : s < 2 ^ n) : elems n s = c :: elems n (s &&& (s - 1)) := by
  have hp : 0 < 2 ^ c := Nat.two_pow_pos c
  have e1 : s - 1 = 2 ^ (c + 1) * m + (2 ^ c - 1) := by
    have a1 : 2 ^ c * (2 * m + 1) = 2 ^ (c + 1) * m + 2 ^ c := by rw [Nat.pow_succ, Nat.mul_add, Nat.mul_assoc]; simp
    omega
  have hb : ∀ j, s.testBit j = if j < c then false else if j = c then true else m.testBit (j - (c + 1)) := by
    intro j
    rw [hs, Nat.mul_comm, Nat.testBit_mul_two_pow]
    by_cases h1 : j < c
    · rw [if_pos h1]; simp; omega
    · rw [if_neg h1]
      by_cases h2 : j = c
      · subst h2; simp
      · rw [if_neg h2]
        obtain ⟨d, rfl⟩ : ∃ d, j = c + (d + 1) := ⟨j - c - 1, by omega⟩
        rw [show c + (d + 1) - c = d + 1 from by omega, show c + (d + 1) - (c + 1) = d from by omega, Nat.testBit_succ, show (2 * m + 1) / 2 = m from by omega]
        simp
  have hb1 : ∀ j, (s - 1).testBit j = if j < c then true else if j = c then false else m.testBit (j - (c + 1)) := by
    intro j
    rw [e1, Nat.testBit_two_pow_mul_add m (by have : 2 ^ c < 2 ^ (c + 1) := Nat.pow_lt_pow_right (by decide) (by omega); omega)]
    by_cases h1 : j < c
    · rw [if_pos (by omega), if_pos h1, Nat.testBit_two_pow_sub_one]; simp [h1]
    · rw [if_neg h1]
      by_cases h2 : j = c
      · subst h2; rw [if_pos (by omega), if_pos rfl, Nat.testBit_two_pow_sub_one]; simp
      · rw [if_neg (by omega), if_neg h2]
  have hb2 : ∀ j, (s &&& (s - 1)).testBit j = if j ≤ c then false else s.testBit j := by
    intro j
    rw [Nat.testBit_and, hb, hb1]
    by_cases h1 : j < c
    · simp [h1, Nat.le_of_lt h1]
    · by_cases h2 : j = c
      · simp [h2]
      · rw [if_neg h1, if_neg h1, if_neg h2, if_neg h2, if_neg (by omega)]; simp
  have hc : c < n := by
    apply Nat.lt_of_not_le
    intro hle
    have h1 : 2 ^ n ≤ 2 ^ c := Nat.pow_le_pow_right (by decide) hle
    have h2 : 2 ^ c ≤ s := by rw [hs]; exact Nat.le_mul_of_pos_right _ (by omega)
    omega
  unfold elems
  rw [filter_range_split n c hc, filter_range_split n c hc (fun j => (s &&& (s - 1)).testBit j)]
  have z1 : (List.range c).filter (fun j => s.testBit j) = [] := by
    rw [List.filter_eq_nil_iff]; intro j hj; simp at hj; rw [hb, if_pos hj]; simp
  have z2 : (List.range c).filter (fun j => (s &&& (s - 1)).testBit j) = [] := by
    rw [List.filter_eq_nil_iff]; intro j hj; simp at hj; rw [hb2, if_pos (by omega)]; simp
  have z3 : (List.range' (c + 1) (n - (c + 1))).filter (fun j => s.testBit j) = (List.range' (c + 1) (n - (c + 1))).filter (fun j => (s &&& (s - 1)).testBit j) := by
    apply List.filter_congr
    intro j hj
    rw [List.mem_range'] at hj
    obtain ⟨i, hi, rfl⟩ := hj
    rw [hb2, if_neg (by omega)]
  have y1 : s.testBit c = true := by rw [hb, if_neg (by omega), if_pos rfl]
  have y2 : (s &&& (s - 1)).testBit c = false := by rw [hb2, if_pos (Nat.le_refl _)]
  rw [z1, z2, z3, if_pos y1, y2]
  rfl
theorem and_pred_lt (s : Nat) (h : s ≠ 0) : s &&& (s - 1) < s := Nat.lt_of_le_of_lt Nat.and_le_right (by omega)
theorem u64_small (n : Nat) (h : n < 18446744073709551616) : IntKind.u64.wrap (n : Int) = (n : Int) := by
  simp [IntKind.wrap, IntKind.signed, IntKind.bits]
  omega
theorem members_ev (n : Nat) (hn : n ≤ 62) (s : Nat) (hs : s < 2 ^ n) : Ev (fun k => impl_members.f k (s : Int)) (ints (elems n s)) := by
  have key : ∀ d s, s ≤ d → s < 2 ^ n → ∀ acc : List Int, acc.length + (elems n s).length ≤ 64 → Ev (fun k => impl_members.l0 k (s : Int) acc) (acc ++ ints (elems n s)) := by
    intro d
    induction d with
    | zero =>
      intro s h0 _ acc _
      obtain rfl : s = 0 := by omega
      refine Ev.step (fun _ => rfl) ?_
      simp only [impl_members.l0, Int.natCast_zero, if_true]
      rw [elems_zero]
      simpa [ints] using Ev.now acc
    | succ d ih =>
      intro s h0 hs acc ha
      by_cases hz : s = 0
      · exact ih s (by omega) hs acc ha
      · have hs2 := lt62 hs hn
        obtain ⟨m, hm, hk⟩ := Lib.ctzFrom_spec 64 s (by omega) (by omega)
        have he := elems_least n s _ m hm hs
        have hl : (elems n s).length = (elems n (s &&& (s - 1))).length + 1 := by rw [he]; rfl
        refine Ev.step (fun _ => rfl) ?_
        have hc : Lib.ctz 64 s = Lib.ctzFrom 64 s := by unfold Lib.ctz; rw [if_neg hz]
        have e1 : bits_TrailingZeros.f (IntKind.u64.wrap (s : Int)) = some ((Lib.ctzFrom 64 s : Nat) : Int) := by
          rw [u64_small s (by omega)]
          unfold bits_TrailingZeros.f bits_TrailingZeros64.f
          rw [if_pos ⟨by omega, by omega⟩, Int.toNat_natCast, hc]
          rfl
        have e2 : Go.bits .and .i64 (s : Int) (wrap64 ((s : Int) - 1)) = ((s &&& (s - 1) : Nat) : Int) := by
          rw [show wrap64 ((s : Int) - 1) = ((s - 1 : Nat) : Int) from by unfold wrap64; omega]
          exact and_i64 _ _ (by omega) (by omega)
        simp only [impl_members.l0, if_neg (show ¬ (s : Int) = 0 by omega), e1, Option.bind_some, if_pos (show acc.length < 17592186044416 by omega), e2]
        have := ih (s &&& (s - 1)) (by have := and_pred_lt s hz; omega) (Nat.lt_of_le_of_lt Nat.and_le_left hs) (acc ++ [((Lib.ctzFrom 64 s : Nat) : Int)]) (by simp; omega)
        refine Ev.to this ?_
        rw [he]
        simp [ints]
  have h := key s s (Nat.le_refl _) hs [] (by have := elems_length_le n s; simp; omega)
  exact h
theorem orHas_eq (s : Nat) (j : Nat) (hj : j ≤ 64) : spec_orHas.f (s : Int) (j : Int) = some (s.testBit j) := by
  unfold spec_orHas.f
  rw [if_pos (by omega), has_mod _ _ (by omega) hj, bit_cast]
theorem orList_ev (n : Nat) (hn : n ≤ 62) (s : Nat) (hs : s < 2 ^ n) : Ev (fun k => spec_orList.f k (s : Int)) (ints (elems n s)) := by
  -- up to the place behind the last element
  obtain ⟨t, ht, hlt, hgt⟩ : ∃ t, t ≤ n ∧ s / 2 ^ t = 0 ∧ ∀ i, i < t → 0 < s / 2 ^ i := by
    refine ⟨(if s = 0 then 0 else Nat.log2 s + 1), ?_, ?_, ?_⟩
    · split
      · omega
      · rename_i h
        have := (Nat.log2_lt h (k := n)).2 hs
        omega
    · split
      · rename_i h; simp [h]
      · exact Nat.div_eq_of_lt (Nat.lt_log2_self)
    · intro i hi
      split at hi
      · omega
      · rename_i h
        apply Nat.div_pos _ (Nat.two_pow_pos _)
        exact Nat.le_trans (Nat.pow_le_pow_right (by decide) (by omega : i ≤ Nat.log2 s)) (Nat.log2_self_le h)
  have hs2 := lt62 hs hn
  have hsplit : elems n s = elems t s := by
    unfold elems
    have e : List.range n = List.range t ++ List.range' t (n - t) := by
      rw [List.range_eq_range', List.range_eq_range']
      have := List.range'_append_1 (s := 0) (m := t) (n := n - t)
      rw [Nat.zero_add] at this
      rw [this]
      congr 1
      omega
    rw [e, List.filter_append]
    have z : (List.range' t (n - t)).filter (fun j => s.testBit j) = [] := by
      rw [List.filter_eq_nil_iff]
      intro j hj
      rw [List.mem_range'] at hj
      obtain ⟨i, hi, rfl⟩ := hj
      have h1 : s < 2 ^ t := by
        rcases Nat.div_eq_zero_iff.1 hlt with h | h
        · exact absurd h (Nat.ne_of_gt (Nat.two_pow_pos _))
        · exact h
      rw [Nat.testBit_lt_two_pow (Nat.lt_of_lt_of_le h1 (Nat.pow_le_pow_right (by decide) (by omega)))]
      simp
    rw [z, List.append_nil]
  rw [hsplit]
  unfold spec_orList.f
  refine Ev.up (fun i k => spec_orList.l0 k (s : Int) (ints (elems i s)) (i : Int)) t ?_ ?_
  · intro i hi h
    refine Ev.step (fun _ => rfl) ?_
    have e1 : shr .i64 (s : Int) (i : Int) > 0 := by rw [shr_nat s i (by omega)]; have := hgt i hi; omega
    have hlen := elems_length_le i s
    have e2 : elems (i + 1) s = elems i s ++ (if s.testBit i then [i] else []) := by
      unfold elems
      rw [List.range_succ, List.filter_append]
      congr 1
      cases hb2 : s.testBit i <;> simp [hb2]
    simp only [spec_orList.l0, if_pos (show (0 : Int) ≤ (i : Int) by omega), if_pos e1, orHas_eq s i (by omega), Option.bind_some, next64 i t hi (by omega)]
    rw [e2] at h
    cases hb : s.testBit i with
    | true =>
      simp only [if_true, ints_length, if_pos (show (elems i s).length < 17592186044416 by omega)]
      rw [hb] at h
      simpa [ints] using h
    | false =>
      rw [hb] at h
      simpa [ints] using h
  · refine Ev.step (fun _ => rfl) ?_
    have e1 : ¬ shr .i64 (s : Int) (t : Int) > 0 := by rw [shr_nat s t (by omega)]; omega
    simp only [spec_orList.l0, if_pos (show (0 : Int) ≤ (t : Int) by omega), if_neg e1]
    exact Ev.now _
end Go.Proofs.YtjdkcafpgebjfaaDoor.M
namespace Go.Proofs.YtjdkcafpgebjfaaDoor.M
open Go.RowKit Go.Proofs.YtjdkcafpgebjfaaDoorW.PrintMore Go.Proofs.YtjdkcafpgebjfaaDoorW.PrintLast Go.Proofs.YtjdkcafpgebjfaaDoorW.PrintWords Go.Proofs.YtjdkcafpgebjfaaDoor.P
def isRel (n : Int) (l : List Int) : Bool := decide (0 ≤ n ∧ n ≤ 10 ∧ (l.length : Int) = n ∧ ∀ x ∈ l, 0 ≤ x ∧ x ≤ ((2 ^ n.toNat : Nat) : Int) - 1)
def row (l : List Int) (i : Nat) : Nat := (l.getD i 0).toNat
def B (l : List Int) (i j : Nat) : Bool := (row l i).testBit j
structure Rel (n : Nat) (l : List Int) : Prop where
  le : n ≤ 10
  len : l.length = n
  mem : ∀ x ∈ l, 0 ≤ x ∧ x ≤ ((2 ^ n : Nat) : Int) - 1
theorem isRel_iff {n : Int} {l : List Int} : isRel n l = true ↔ ∃ m : Nat, n = m ∧ Rel m l := by
  unfold isRel
  rw [decide_eq_true_iff]
  constructor
  · rintro ⟨h0, h1, h2, h3⟩
    obtain ⟨m, rfl⟩ := Int.eq_ofNat_of_zero_le h0
    exact ⟨m, rfl, by omega, by omega, by simpa using h3⟩
  · rintro ⟨m, rfl, h⟩
    refine ⟨by omega, by have := h.le; omega, by have := h.len; omega, by simpa using h.mem⟩
section
variable {n : Nat} {l : List Int}
theorem Rel.getD (h : Rel n l) (i : Nat) : l.getD i 0 = ((row l i : Nat) : Int) := by
  unfold row
  by_cases hi : i < l.length
  · have := (h.mem l[i] (List.getElem_mem hi)).1
    rw [show l.getD i 0 = l[i] by simp [hi]]
    omega
  · rw [show l.getD i 0 = 0 by simp [Nat.not_lt.1 hi]]
    rfl
theorem Rel.row_lt (h : Rel n l) (i : Nat) : row l i < 2 ^ n := by
  have hp : 0 < 2 ^ n := Nat.two_pow_pos n
  by_cases hi : i < l.length
  · have h1 := h.mem l[i] (List.getElem_mem hi)
    have h2 := h.getD i
    rw [show l.getD i 0 = l[i] by simp [hi]] at h2
    omega
  · unfold row
    rw [show l.getD i 0 = 0 by simp [Nat.not_lt.1 hi]]
    simpa using hp
theorem Rel.row_62 (h : Rel n l) (i : Nat) : row l i < 9223372036854775808 := lt62 (h.row_lt i) (by have := h.le; omega)
theorem Rel.B_lt (h : Rel n l) {i j : Nat} (hb : B l i j = true) : j < n := by
  apply Nat.lt_of_not_le
  intro hle
  unfold B at hb
  rw [Nat.testBit_lt_two_pow (Nat.lt_of_lt_of_le (h.row_lt i) (Nat.pow_le_pow_right (by decide) hle))] at hb
  cases hb
theorem Rel.B_lt' (h : Rel n l) {i j : Nat} (hb : B l i j = true) : i < n := by
  apply Nat.lt_of_not_le
  intro hle
  unfold B row at hb
  rw [show l.getD i 0 = 0 by simp [h.len, hle]] at hb
  simp at hb
theorem Rel.rd (h : Rel n l) (i : Nat) : rd l (i : Int) = ((row l i : Nat) : Int) := by rw [rd_nat, h.getD]
theorem Rel.bit (h : Rel n l) (i j : Nat) : M.bit (Go.Proofs.YtjdkcafpgebjfaaDoorW.PrintWords.rd l (i : Int)) j = B l i j := by rw [h.rd, bit_cast]; rfl
end
def relL (n : Nat) (p : Nat → Nat → Bool) : List Int := (List.range n).map fun i => ((setOf n (p i) : Nat) : Int)
theorem relL_length (n : Nat) (p : Nat → Nat → Bool) : (relL n p).length = n := by simp [relL]
theorem relL_row (n : Nat) (p : Nat → Nat → Bool) (i : Nat) (h : i < n) : row (relL n p) i = setOf n (p i) := by
  simp [row, relL, h]
theorem relL_B (n : Nat) (p : Nat → Nat → Bool) (i j : Nat) : B (relL n p) i j = (decide (i < n) && (decide (j < n) && p i j)) := by
  unfold B
  by_cases h : i < n
  · rw [relL_row n p i h, testBit_setOf]; simp [h]
  · have : row (relL n p) i = 0 := by simp [row, relL, h]
    rw [this]; simp [h]
theorem relL_rel (n : Nat) (hn : n ≤ 10) (p : Nat → Nat → Bool) : Rel n (relL n p) where
  le := hn
  len := relL_length n p
  mem := by
    intro x hx
    simp only [relL, List.mem_map, List.mem_range] at hx
    obtain ⟨i, _, rfl⟩ := hx
    have := setOf_lt n (p i)
    omega
theorem within_eq (a b c : Int) : impl_within.f a b c = some (decide (b ≤ a ∧ a ≤ c)) := by
  unfold impl_within.f
  by_cases h : a ≥ b
  · rw [if_pos h]; simp [h]
  · rw [if_neg h]; simp; omega
theorem l1In_eq (a b c : Int) : spec_l1In.f a b c = some (decide (b ≤ a ∧ a ≤ c)) := by
  unfold spec_l1In.f
  by_cases h : a ≥ b
  · rw [if_pos h]; simp [h]
  · rw [if_neg h]; simp; omega
def allIn (l : List Int) (a b : Int) : Bool := decide (∀ x ∈ l, a ≤ x ∧ x ≤ b)
theorem allIn_eq (l : List Int) (a b : Int) : allIn l a b = allB l.length fun i => decide (a ≤ l.getD i 0 ∧ l.getD i 0 ≤ b) := by
  rw [Bool.eq_iff_iff, allB_iff]
  simp only [allIn, decide_eq_true_iff]
  constructor
  · intro h i hi
    have := h l[i] (List.getElem_mem hi)
    simpa [hi] using this
  · intro h x hx
    obtain ⟨i, hi, rfl⟩ := List.getElem_of_mem hx
    have := h i hi
    simpa [hi] using this
theorem allWithin_ev (l : List Int) (a b : Int) (hl : l.length ≤ 140737488355328) : Ev (fun k => impl_allWithin.f k l a b) (allIn l a b) := by
  rw [allIn_eq]
  unfold impl_allWithin.f
  refine Ev.all (fun i k => impl_allWithin.l0 k a b l (l.length : Int) (i : Int)) l.length _ ?_ ?_ ?_
  · intro i r hi hp h
    refine Ev.step (fun _ => rfl) ?_
    rw [decide_eq_true_iff] at hp
    simp only [impl_allWithin.l0, if_pos (show (i : Int) < (l.length : Int) by omega), if_pos (show (0 : Int) ≤ (i : Int) by omega), within_eq, rd_nat, Option.bind_some, decide_eq_true hp, if_true, next64 i l.length hi hl]
    exact h
  · intro i hi hp
    refine Ev.step (fun _ => rfl) ?_
    rw [decide_eq_false_iff_not] at hp
    simp only [impl_allWithin.l0, if_pos (show (i : Int) < (l.length : Int) by omega), if_pos (show (0 : Int) ≤ (i : Int) by omega), within_eq, rd_nat, Option.bind_some, decide_eq_false hp, Bool.false_eq_true, if_false]
    exact Ev.now _
  · refine Ev.step (fun _ => rfl) ?_
    simp only [impl_allWithin.l0, if_neg (show ¬ (l.length : Int) < (l.length : Int) by omega)]
    exact Ev.now _
theorem l1All_ev (l : List Int) (a b : Int) (hl : l.length ≤ 140737488355328) : Ev (fun k => spec_l1All.f k l a b) (allIn l a b) := by
  rw [allIn_eq]
  unfold spec_l1All.f
  refine Ev.all (fun i k => spec_l1All.l0 k a b l (l.length : Int) (i : Int)) l.length _ ?_ ?_ ?_
  · intro i r hi hp h
    refine Ev.step (fun _ => rfl) ?_
    rw [decide_eq_true_iff] at hp
    simp only [spec_l1All.l0, if_pos (show (i : Int) < (l.length : Int) by omega), if_pos (show (0 : Int) ≤ (i : Int) by omega), l1In_eq, rd_nat, Option.bind_some, decide_eq_true hp, if_true, next64 i l.length hi hl]
    exact h
  · intro i hi hp
    refine Ev.step (fun _ => rfl) ?_
    rw [decide_eq_false_iff_not] at hp
    simp only [spec_l1All.l0, if_pos (show (i : Int) < (l.length : Int) by omega), if_pos (show (0 : Int) ≤ (i : Int) by omega), l1In_eq, rd_nat, Option.bind_some, decide_eq_false hp, Bool.false_eq_true, if_false]
    exact Ev.now _
  · refine Ev.step (fun _ => rfl) ?_
    simp only [spec_l1All.l0, if_neg (show ¬ (l.length : Int) < (l.length : Int) by omega)]
    exact Ev.now _
theorem pow_of (n : Int) (h0 : 0 ≤ n) (h1 : n ≤ 10) : wrap64 (shl .i64 1 n - 1) = ((2 ^ n.toNat : Nat) : Int) - 1 := by
  obtain ⟨m, rfl⟩ := Int.eq_ofNat_of_zero_le h0
  rw [shl1 m (by omega), Int.toNat_natCast]
  have h2 : (2 : Nat) ^ m ≤ 2 ^ 10 := Nat.pow_le_pow_right (by decide) (by omega)
  have h3 : 0 < (2 : Nat) ^ m := Nat.two_pow_pos m
  exact wrap64_id _ (by omega) (by omega)
theorem isRel_parts (n : Int) (l : List Int) : isRel n l = (decide (0 ≤ n ∧ n ≤ 10) && (decide ((l.length : Int) = n) && allIn l 0 (((2 ^ n.toNat : Nat) : Int) - 1))) := by
  rw [Bool.eq_iff_iff]
  simp only [isRel, allIn, Bool.and_eq_true, decide_eq_true_iff]
  exact ⟨fun ⟨a, b, c, d⟩ => ⟨⟨a, b⟩, c, d⟩, fun ⟨⟨a, b⟩, c, d⟩ => ⟨a, b, c, d⟩⟩
theorem IsRelation_ev (n : Int) (l : List Int) (hl : l.length ≤ 140737488355328) : Ev (fun k => impl_IsRelation.f k n l) (isRel n l) := by
  unfold impl_IsRelation.f
  simp only [within_eq, Option.bind_some]
  rw [isRel_parts]
  by_cases h1 : 0 ≤ n ∧ n ≤ 10
  · by_cases h2 : (l.length : Int) = n
    · simp only [decide_eq_true h1, if_true, if_pos h2, if_pos h1.1, pow_of n h1.1 h1.2, decide_eq_true h2, Bool.true_and]
      exact Ev.bind (allWithin_ev l _ _ hl) (Ev.now _)
    · simp only [decide_eq_true h1, if_true, if_neg h2, decide_eq_false h2, Bool.false_and, Bool.and_false]
      exact Ev.now _
  · simp only [decide_eq_false h1, Bool.false_eq_true, if_false, Bool.false_and]
    exact Ev.now _
theorem orRelation_ev (n : Int) (l : List Int) (hl : l.length ≤ 140737488355328) : Ev (fun k => spec_orRelation.f k n l) (isRel n l) := by
  unfold spec_orRelation.f
  simp only [l1In_eq, Option.bind_some]
  rw [isRel_parts]
  by_cases h1 : 0 ≤ n ∧ n ≤ 10
  · by_cases h2 : (l.length : Int) = n
    · simp only [decide_eq_true h1, if_true, if_pos h2, if_pos h1.1, pow_of n h1.1 h1.2, decide_eq_true h2, Bool.true_and]
      exact Ev.bind (l1All_ev l _ _ hl) (Ev.now _)
    · simp only [decide_eq_true h1, if_true, if_neg h2, decide_eq_false h2, Bool.false_and, Bool.and_false]
      exact Ev.now _
  · simp only [decide_eq_false h1, Bool.false_eq_true, if_false, Bool.false_and]
    exact Ev.now _
def closedAt (n : Nat) (l : List Int) (i : Nat) : Bool := allB (elems n (row l i)).length fun q => diff (row l ((elems n (row l i)).getD q 0)) (row l i) == 0
def isOrd (n : Int) (l : List Int) : Bool := isRel n l && allB l.length fun i => !B l i i && closedAt l.length l i
theorem better_eq {n : Nat} {l : List Int} (h : Rel n l) (m : Int) (i j : Nat) (hi : i < n) (hj : j ≤ 62) : impl_Order_better.f m l (i : Int) (j : Int) = some (B l i j) := by
  unfold impl_Order_better.f
  rw [if_pos (by omega), if_pos (by rw [h.len]; omega), if_pos (by omega), has_and _ _ (by rw [h.rd]; omega) (by rw [h.rd]; have := h.row_62 i; omega) (by omega), h.bit]
theorem diff_zero (a b : Nat) : (diff a b = 0) ↔ ∀ j, a.testBit j = true → b.testBit j = true := by
  constructor
  · intro h j hj
    have := testBit_diff a b j
    rw [h, hj] at this
    simpa using this.symm
  · intro h
    apply Nat.eq_of_testBit_eq
    intro j
    rw [testBit_diff]
    cases hj : a.testBit j with
    | false => simp
    | true => simp [h j hj]
theorem ints_getD (l : List Nat) (q : Nat) (h : q < l.length) : (ints l).getD q 0 = ((l.getD q 0 : Nat) : Int) := by simp [ints, h]
theorem closed_iff {n : Nat} {l : List Int} (h : Rel n l) (i : Nat) : closedAt n l i = true ↔ ∀ j k, B l i j = true → B l j k = true → B l i k = true := by
  unfold closedAt
  rw [allB_iff]
  constructor
  · intro H j k hij hjk
    have hm : j ∈ elems n (row l i) := mem_elems.2 ⟨h.B_lt hij, hij⟩
    obtain ⟨q, hq, e⟩ := List.getElem_of_mem hm
    have := H q hq
    rw [show (elems n (row l i)).getD q 0 = j by simp [hq, e], beq_iff_eq, diff_zero] at this
    exact this k hjk
  · intro H q hq
    rw [beq_iff_eq, diff_zero]
    intro k hk
    have hm : (elems n (row l i)).getD q 0 ∈ elems n (row l i) := by simp [hq]
    exact H _ k (mem_elems.1 hm).2 hk
structure Ord (n : Nat) (l : List Int) : Prop extends Rel n l where
  irr : ∀ i, B l i i = false
  trans : ∀ i j k, B l i j = true → B l j k = true → B l i k = true
theorem isOrd_iff {n : Int} {l : List Int} : isOrd n l = true ↔ ∃ m : Nat, n = m ∧ Ord m l := by
  unfold isOrd
  rw [Bool.and_eq_true, isRel_iff, allB_iff]
  constructor
  · rintro ⟨⟨m, rfl, h⟩, H⟩
    rw [h.len] at H
    refine ⟨m, rfl, h, fun i => ?_, fun i j k hij hjk => ?_⟩
    · cases hc : B l i i with
      | false => rfl
      | true =>
        have := H i (h.B_lt hc)
        rw [hc] at this
        simp at this
    · have := H i (h.B_lt' hij)
      rw [Bool.and_eq_true] at this
      exact (closed_iff h i).1 this.2 j k hij hjk
  · rintro ⟨m, rfl, h⟩
    refine ⟨⟨m, rfl, h.toRel⟩, fun i _ => ?_⟩
    rw [h.irr i, h.len, (closed_iff h.toRel i).2 (h.trans i)]
    rfl
theorem IsOrder_ev (n : Int) (l : List Int) (hl : l.length ≤ 140737488355328) : Ev (fun k => impl_IsOrder.f k n l) (isOrd n l) := by
  unfold impl_IsOrder.f isOrd
  refine Ev.bind (IsRelation_ev n l hl) ?_
  cases hr : isRel n l with
  | false => simp only [Bool.false_eq_true, if_false, Bool.false_and]; exact Ev.now _
  | true =>
    obtain ⟨m, rfl, h⟩ := isRel_iff.1 hr
    have hlen := h.len
    have h10 := h.le
    simp only [if_true, Bool.true_and]
    refine Ev.all (fun i k => impl_IsOrder.l0 k l (l.length : Int) (i : Int) (m : Int) l) l.length _ ?_ ?_ ?_
    · intro i r hi hp hrest
      rw [Bool.and_eq_true] at hp
      have hB : B l i i = false := by simpa using hp.1
      refine Ev.step (fun _ => rfl) ?_
      simp only [impl_IsOrder.l0, if_pos (show (i : Int) < (l.length : Int) by omega), if_pos (show (0 : Int) ≤ (i : Int) by omega), better_eq h _ i i (by omega) (by omega), Option.bind_some, hB, Bool.false_eq_true, if_false, h.rd]
      refine Ev.bind (members_ev m (by omega) (row l i) (h.row_lt i)) ?_
      have hE := elems_length_le m (row l i)
      rw [ints_length]
      refine Ev.up (fun q k => impl_IsOrder.l1 k ((row l i : Nat) : Int) l (l.length : Int) (i : Int) (ints (elems m (row l i))) ((elems m (row l i)).length : Int) (q : Int) (m : Int) l) (elems m (row l i)).length ?_ ?_
      · intro q hq hn
        refine Ev.step (fun _ => rfl) ?_
        have hmem : (elems m (row l i)).getD q 0 ∈ elems m (row l i) := by simp [hq]
        have hlt := (mem_elems.1 hmem).1
        have e0 : rd (ints (elems m (row l i))) (q : Int) = (((elems m (row l i)).getD q 0 : Nat) : Int) := by rw [rd_nat, ints_getD _ _ hq]
        have hd : diff (row l ((elems m (row l i)).getD q 0)) (row l i) = 0 := by
          have hc := hp.2
          unfold closedAt at hc
          rw [allB_iff, hlen] at hc
          exact beq_iff_eq.1 (hc q hq)
        simp only [impl_IsOrder.l1, if_pos (show (q : Int) < ((elems m (row l i)).length : Int) by omega), if_pos (show (0 : Int) ≤ (q : Int) by omega), ints_length, e0, if_pos (show (0 : Int) ≤ (((elems m (row l i)).getD q 0 : Nat) : Int) by omega), if_pos (show (((elems m (row l i)).getD q 0 : Nat) : Int) < (l.length : Int) by omega), h.rd, andNot_i64 _ _ (h.row_62 _) (h.row_62 _), hd, Int.natCast_zero, if_true, next64 q _ hq (by omega)]
        exact hn
      · refine Ev.step (fun _ => rfl) ?_
        simp only [impl_IsOrder.l1, if_neg (show ¬ ((elems m (row l i)).length : Int) < ((elems m (row l i)).length : Int) by omega), next64 i l.length hi (by omega)]
        exact hrest
    · intro i hi hp
      refine Ev.step (fun _ => rfl) ?_
      simp only [impl_IsOrder.l0, if_pos (show (i : Int) < (l.length : Int) by omega), if_pos (show (0 : Int) ≤ (i : Int) by omega), better_eq h _ i i (by omega) (by omega), Option.bind_some]
      cases hB : B l i i with
      | true => simp only [if_true]; exact Ev.now _
      | false =>
        rw [hB] at hp
        have hc : closedAt l.length l i = false := by simpa using hp
        unfold closedAt at hc
        rw [hlen] at hc
        obtain ⟨j, hj, hbad, hless⟩ := least_false (allB_false.1 hc)
        simp only [Bool.false_eq_true, if_false, h.rd]
        refine Ev.bind (members_ev m (by omega) (row l i) (h.row_lt i)) ?_
        have hE := elems_length_le m (row l i)
        rw [ints_length]
        refine Ev.up (fun q k => impl_IsOrder.l1 k ((row l i : Nat) : Int) l (l.length : Int) (i : Int) (ints (elems m (row l i))) ((elems m (row l i)).length : Int) (q : Int) (m : Int) l) j ?_ ?_
        · intro q hq hn
          refine Ev.step (fun _ => rfl) ?_
          have hmem : (elems m (row l i)).getD q 0 ∈ elems m (row l i) := by simp [show q < (elems m (row l i)).length by omega]
          have hlt := (mem_elems.1 hmem).1
          have e0 : rd (ints (elems m (row l i))) (q : Int) = (((elems m (row l i)).getD q 0 : Nat) : Int) := by rw [rd_nat, ints_getD _ _ (by omega)]
          have hd : diff (row l ((elems m (row l i)).getD q 0)) (row l i) = 0 := beq_iff_eq.1 (hless q hq)
          simp only [impl_IsOrder.l1, if_pos (show (q : Int) < ((elems m (row l i)).length : Int) by omega), if_pos (show (0 : Int) ≤ (q : Int) by omega), ints_length, e0, if_pos (show (0 : Int) ≤ (((elems m (row l i)).getD q 0 : Nat) : Int) by omega), if_pos (show (((elems m (row l i)).getD q 0 : Nat) : Int) < (l.length : Int) by omega), h.rd, andNot_i64 _ _ (h.row_62 _) (h.row_62 _), hd, Int.natCast_zero, if_true, next64 q _ (show q < (elems m (row l i)).length by omega) (by omega)]
          exact hn
        · refine Ev.step (fun _ => rfl) ?_
          have hmem : (elems m (row l i)).getD j 0 ∈ elems m (row l i) := by simp [hj]
          have hlt := (mem_elems.1 hmem).1
          have e0 : rd (ints (elems m (row l i))) (j : Int) = (((elems m (row l i)).getD j 0 : Nat) : Int) := by rw [rd_nat, ints_getD _ _ (by omega)]
          have hd : ¬ ((diff (row l ((elems m (row l i)).getD j 0)) (row l i) : Nat) : Int) = 0 := by
            have := beq_eq_false_iff_ne.1 hbad
            omega
          simp only [impl_IsOrder.l1, if_pos (show (j : Int) < ((elems m (row l i)).length : Int) by omega), if_pos (show (0 : Int) ≤ (j : Int) by omega), ints_length, e0, if_pos (show (0 : Int) ≤ (((elems m (row l i)).getD j 0 : Nat) : Int) by omega), if_pos (show (((elems m (row l i)).getD j 0 : Nat) : Int) < (l.length : Int) by omega), h.rd, andNot_i64 _ _ (h.row_62 _) (h.row_62 _), if_neg hd]
          exact Ev.now _
    · refine Ev.step (fun _ => rfl) ?_
      simp only [impl_IsOrder.l0, if_neg (show ¬ (l.length : Int) < (l.length : Int) by omega)]
      exact Ev.now _
end Go.Proofs.YtjdkcafpgebjfaaDoor.M
namespace Go.Proofs.YtjdkcafpgebjfaaDoor.M
open Go.RowKit Go.Proofs.YtjdkcafpgebjfaaDoorW.PrintMore Go.Proofs.YtjdkcafpgebjfaaDoorW.PrintLast Go.Proofs.YtjdkcafpgebjfaaDoorW.PrintWords Go.Proofs.YtjdkcafpgebjfaaDoor.P
theorem orGood_ev (n : Int) (l : List Int) (hl : l.length ≤ 140737488355328) : Ev (fun k => spec_orGood.f k n l) (isOrd n l) := by
  unfold spec_orGood.f isOrd
  refine Ev.bind (orRelation_ev n l hl) ?_
  cases hr : isRel n l with
  | false => simp only [Bool.false_eq_true, if_false, Bool.false_and]; exact Ev.now _
  | true =>
    obtain ⟨m, rfl, h⟩ := isRel_iff.1 hr
    have hlen := h.len
    have h10 := h.le
    simp only [if_true, Bool.true_and]
    refine Ev.all (fun i k => spec_orGood.l0 k l (l.length : Int) (i : Int) (m : Int) l) l.length _ ?_ ?_ ?_
    · intro i r hi hp hrest
      rw [Bool.and_eq_true] at hp
      have hB : B l i i = false := by simpa using hp.1
      refine Ev.step (fun _ => rfl) ?_
      simp only [spec_orGood.l0, if_pos (show (i : Int) < (l.length : Int) by omega), if_pos (show (0 : Int) ≤ (i : Int) by omega), h.rd, orHas_eq (row l i) i (by omega), show (row l i).testBit i = B l i i from rfl, Option.bind_some, hB, Bool.false_eq_true, if_false]
      refine Ev.bind (orList_ev m (by omega) (row l i) (h.row_lt i)) ?_
      have hE := elems_length_le m (row l i)
      rw [ints_length]
      refine Ev.up (fun q k => spec_orGood.l1 k ((row l i : Nat) : Int) l (l.length : Int) (i : Int) (ints (elems m (row l i))) ((elems m (row l i)).length : Int) (q : Int) (m : Int) l) (elems m (row l i)).length ?_ ?_
      · intro q hq hn
        refine Ev.step (fun _ => rfl) ?_
        have hmem : (elems m (row l i)).getD q 0 ∈ elems m (row l i) := by simp [hq]
        have hlt := (mem_elems.1 hmem).1
        have e0 : rd (ints (elems m (row l i))) (q : Int) = (((elems m (row l i)).getD q 0 : Nat) : Int) := by rw [rd_nat, ints_getD _ _ hq]
        have hd : diff (row l ((elems m (row l i)).getD q 0)) (row l i) = 0 := by
          have hc := hp.2
          unfold closedAt at hc
          rw [allB_iff, hlen] at hc
          exact beq_iff_eq.1 (hc q hq)
        simp only [spec_orGood.l1, if_pos (show (q : Int) < ((elems m (row l i)).length : Int) by omega), if_pos (show (0 : Int) ≤ (q : Int) by omega), ints_length, e0, if_pos (show (0 : Int) ≤ (((elems m (row l i)).getD q 0 : Nat) : Int) by omega), if_pos (show (((elems m (row l i)).getD q 0 : Nat) : Int) < (l.length : Int) by omega), h.rd, andNot_i64 _ _ (h.row_62 _) (h.row_62 _), hd, Int.natCast_zero, if_true, next64 q _ hq (by omega)]
        exact hn
      · refine Ev.step (fun _ => rfl) ?_
        simp only [spec_orGood.l1, if_neg (show ¬ ((elems m (row l i)).length : Int) < ((elems m (row l i)).length : Int) by omega), next64 i l.length hi (by omega)]
        exact hrest
    · intro i hi hp
      refine Ev.step (fun _ => rfl) ?_
      simp only [spec_orGood.l0, if_pos (show (i : Int) < (l.length : Int) by omega), if_pos (show (0 : Int) ≤ (i : Int) by omega), h.rd, orHas_eq (row l i) i (by omega), show (row l i).testBit i = B l i i from rfl, Option.bind_some]
      cases hB : B l i i with
      | true => simp only [if_true]; exact Ev.now _
      | false =>
        rw [hB] at hp
        have hc : closedAt l.length l i = false := by simpa using hp
        unfold closedAt at hc
        rw [hlen] at hc
        obtain ⟨j, hj, hbad, hless⟩ := least_false (allB_false.1 hc)
        simp only [Bool.false_eq_true, if_false]
        refine Ev.bind (orList_ev m (by omega) (row l i) (h.row_lt i)) ?_
        have hE := elems_length_le m (row l i)
        rw [ints_length]
        refine Ev.up (fun q k => spec_orGood.l1 k ((row l i : Nat) : Int) l (l.length : Int) (i : Int) (ints (elems m (row l i))) ((elems m (row l i)).length : Int) (q : Int) (m : Int) l) j ?_ ?_
        · intro q hq hn
          refine Ev.step (fun _ => rfl) ?_
          have hmem : (elems m (row l i)).getD q 0 ∈ elems m (row l i) := by simp [show q < (elems m (row l i)).length by omega]
          have hlt := (mem_elems.1 hmem).1
          have e0 : rd (ints (elems m (row l i))) (q : Int) = (((elems m (row l i)).getD q 0 : Nat) : Int) := by rw [rd_nat, ints_getD _ _ (by omega)]
          have hd : diff (row l ((elems m (row l i)).getD q 0)) (row l i) = 0 := beq_iff_eq.1 (hless q hq)
          simp only [spec_orGood.l1, if_pos (show (q : Int) < ((elems m (row l i)).length : Int) by omega), if_pos (show (0 : Int) ≤ (q : Int) by omega), ints_length, e0, if_pos (show (0 : Int) ≤ (((elems m (row l i)).getD q 0 : Nat) : Int) by omega), if_pos (show (((elems m (row l i)).getD q 0 : Nat) : Int) < (l.length : Int) by omega), h.rd, andNot_i64 _ _ (h.row_62 _) (h.row_62 _), hd, Int.natCast_zero, if_true, next64 q _ (show q < (elems m (row l i)).length by omega) (by omega)]
          exact hn
        · refine Ev.step (fun _ => rfl) ?_
          have hmem : (elems m (row l i)).getD j 0 ∈ elems m (row l i) := by simp [hj]
          have hlt := (mem_elems.1 hmem).1
          have e0 : rd (ints (elems m (row l i))) (j : Int) = (((elems m (row l i)).getD j 0 : Nat) : Int) := by rw [rd_nat, ints_getD _ _ (by omega)]
          have hd : ¬ ((diff (row l ((elems m (row l i)).getD j 0)) (row l i) : Nat) : Int) = 0 := by
            have := beq_eq_false_iff_ne.1 hbad
            omega
          simp only [spec_orGood.l1, if_pos (show (j : Int) < ((elems m (row l i)).length : Int) by omega), if_pos (show (0 : Int) ≤ (j : Int) by omega), ints_length, e0, if_pos (show (0 : Int) ≤ (((elems m (row l i)).getD j 0 : Nat) : Int) by omega), if_pos (show (((elems m (row l i)).getD j 0 : Nat) : Int) < (l.length : Int) by omega), h.rd, andNot_i64 _ _ (h.row_62 _) (h.row_62 _), if_neg hd]
          exact Ev.now _
    · refine Ev.step (fun _ => rfl) ?_
      simp only [spec_orGood.l0, if_neg (show ¬ (l.length : Int) < (l.length : Int) by omega)]
      exact Ev.now _
theorem setOf_bit_or (q : Nat → Bool) (j : Nat) : setOf (j + 1) q = if q j then setOf j q ||| 2 ^ j else setOf j q := by
  show setOf j q ||| (if q j then 2 ^ j else 0) = _
  cases q j <;> simp
def part (n : Nat) (p : Nat → Nat → Bool) (i j : Nat) : List Int := (List.range n).map fun a => ((setOf (if a < i then n else if a = i then j else 0) (p a) : Nat) : Int)
theorem part_length (n : Nat) (p : Nat → Nat → Bool) (i j : Nat) : (part n p i j).length = n := by simp [part]
theorem part_getD (n : Nat) (p : Nat → Nat → Bool) (i j a : Nat) (h : a < n) : (part n p i j).getD a 0 = ((setOf (if a < i then n else if a = i then j else 0) (p a) : Nat) : Int) := by simp [part, h]
theorem part_next (n : Nat) (p : Nat → Nat → Bool) (i : Nat) : part n p i n = part n p (i + 1) 0 := by
  unfold part
  apply List.map_congr_left
  intro a _
  by_cases h1 : a < i
  · rw [if_pos h1, if_pos (by omega)]
  · rw [if_neg h1]
    by_cases h2 : a = i
    · rw [if_pos h2, if_pos (by omega)]
    · rw [if_neg h2, if_neg (by omega)]
      by_cases h3 : a = i + 1
      · rw [if_pos h3]
      · rw [if_neg h3]
theorem part_no (n : Nat) (p : Nat → Nat → Bool) (i j : Nat) (hi : i < n) (h : p i j = false) : part n p i j = part n p i (j + 1) := by
  unfold part
  apply List.map_congr_left
  intro a _
  by_cases h2 : a = i
  · subst h2
    rw [if_neg (Nat.lt_irrefl _), if_pos rfl, if_neg (Nat.lt_irrefl _), if_pos rfl, setOf_bit_or, h]
    rfl
  · rw [if_neg h2, if_neg h2]
theorem part_yes (n : Nat) (p : Nat → Nat → Bool) (i j : Nat) (hi : i < n) (h : p i j = true) : (part n p i j).set i ((setOf j (p i) ||| 2 ^ j : Nat) : Int) = part n p i (j + 1) := by
  apply list_ext_getD (by simp [part_length])
  intro a ha
  have ha : a < n := by simpa [part_length] using ha
  rw [part_getD n p i (j + 1) a ha]
  by_cases h2 : a = i
  · subst h2
    rw [if_neg (Nat.lt_irrefl _), if_pos rfl, setOf_bit_or, h]
    rw [List.getD_eq_getElem?_getD, List.getElem?_set_self (by rw [part_length]; exact hi)]
    rfl
  · have e : ((part n p i j).set i ((setOf j (p i) ||| 2 ^ j : Nat) : Int)).getD a 0 = (part n p i j).getD a 0 := by
      simp [List.getD, Ne.symm h2]
    rw [e, part_getD n p i j a ha, if_neg h2, if_neg h2]
theorem part_zero (n : Nat) (p : Nat → Nat → Bool) : part n p 0 0 = List.replicate n 0 := by
  apply list_ext_getD (by simp [part_length])
  intro a ha
  have ha : a < n := by simpa [part_length] using ha
  rw [part_getD n p 0 0 a ha, if_neg (Nat.not_lt_zero _)]
  have : (if a = 0 then 0 else 0) = 0 := by split <;> rfl
  rw [this]
  simp [setOf, ha]
theorem part_all (n : Nat) (p : Nat → Nat → Bool) : part n p n 0 = relL n p := by
  unfold part relL
  apply List.map_congr_left
  intro a ha
  rw [List.mem_range] at ha
  rw [if_pos ha]
theorem relation_ev (n : Nat) (hn : n ≤ 62) (g : Nat → Int → Int → Option Bool) (p : Nat → Nat → Bool) (hg : ∀ i j, i < n → j < n → Ev (fun k => g k (i : Int) (j : Int)) (p i j)) :
    Ev (fun k => impl_relation.f k (n : Int) (g k)) ((n : Int), relL n p) := by
  -- the tests all come to their answers from one number of rounds on
  obtain ⟨K, hK⟩ : ∃ K, ∀ k, K ≤ k → ∀ i j, i < n → j < n → g k (i : Int) (j : Int) = some (p i j) := by
    have one : ∀ m, ∃ K, ∀ k, K ≤ k → ∀ i j, i < n → j < n → i * n + j < m → g k (i : Int) (j : Int) = some (p i j) := by
      intro m
      induction m with
      | zero => exact ⟨0, fun k _ i j _ _ h => absurd h (Nat.not_lt_zero _)⟩
      | succ m ih =>
        obtain ⟨K, hK⟩ := ih
        by_cases hx : ∃ i j, i < n ∧ j < n ∧ i * n + j = m
        · obtain ⟨i, j, hi, hj, hm⟩ := hx
          obtain ⟨K', hK'⟩ := hg i j hi hj
          refine ⟨max K K', fun k hk i' j' hi' hj' h => ?_⟩
          by_cases he : i' * n + j' = m
          · have e1 : i' = i := by
              have a1 : (i' * n + j') / n = i' := by rw [Nat.mul_comm, Nat.mul_add_div (by omega), Nat.div_eq_of_lt hj', Nat.add_zero]
              have a2 : (i * n + j) / n = i := by rw [Nat.mul_comm, Nat.mul_add_div (by omega), Nat.div_eq_of_lt hj, Nat.add_zero]
              rw [← a1, ← a2, he, hm]
            subst e1
            have e2 : j' = j := by omega
            subst e2
            exact hK' k (by omega)
          · exact hK k (by omega) i' j' hi' hj' (by omega)
        · exact ⟨K, fun k hk i j hi hj h => hK k hk i j hi hj (by
            rcases Nat.lt_or_ge (i * n + j) m with h1 | h1
            · exact h1
            · exact absurd ⟨i, j, hi, hj, by omega⟩ hx)⟩
    obtain ⟨K, h⟩ := one (n * n + n)
    refine ⟨K, fun k hk i j hi hj => h k hk i j hi hj ?_⟩
    have : i * n ≤ n * n := Nat.mul_le_mul_right n (by omega)
    omega
  -- with the tests as' at one number
  have main : ∀ is : Int → Int → Option Bool, (∀ i j, i < n → j < n → is (i : Int) (j : Int) = some (p i j)) → Ev (fun k => impl_relation.f k (n : Int) is) ((n : Int), relL n p) := by
    intro is his
    unfold impl_relation.f
    simp only [if_pos (show (0 : Int) ≤ (n : Int) by omega), Int.toNat_natCast, if_pos (show n ≤ 35184372088832 by omega)]
    rw [← part_zero n p]
    refine Ev.up (fun i k => impl_relation.l0 is k (n : Int) (n : Int) (i : Int) (n : Int) (part n p i 0)) n ?_ ?_
    · intro i hi h
      refine Ev.step (fun _ => rfl) ?_
      simp only [impl_relation.l0, if_pos (show (i : Int) < (n : Int) by omega)]
      refine Ev.up (fun j k => impl_relation.l1 is k (n : Int) (i : Int) (n : Int) (i : Int) (n : Int) (j : Int) (n : Int) (part n p i j)) n ?_ ?_
      · intro j hj h
        refine Ev.step (fun _ => rfl) ?_
        simp only [impl_relation.l1, if_pos (show (j : Int) < (n : Int) by omega), his i j hi hj, Option.bind_some, next64 j n hj (by omega)]
        cases hp : p i j with
        | false =>
          simp only [Bool.false_eq_true, if_false]
          rw [part_no n p i j hi hp]
          exact h
        | true =>
          have hs : setOf j (p i) < 9223372036854775808 := setOf_62 _ _ (by omega)
          have h2 : (2 : Nat) ^ j < 9223372036854775808 := Nat.lt_of_le_of_lt (Nat.pow_le_pow_right (by decide) (by omega : j ≤ 62)) (by decide)
          have e1 : rd (part n p i j) (i : Int) = ((setOf j (p i) : Nat) : Int) := by
            rw [rd_nat, part_getD n p i j i hi, if_neg (Nat.lt_irrefl _), if_pos rfl]
          simp only [if_true, if_pos (show (0 : Int) ≤ (i : Int) by omega), part_length, if_pos (show (i : Int) < (n : Int) by omega), if_pos (show (0 : Int) ≤ (j : Int) by omega), e1, shl1 j (by omega), or_i64 _ _ hs h2, Int.toNat_natCast]
          rw [part_yes n p i j hi hp]
          exact h
      · refine Ev.step (fun _ => rfl) ?_
        simp only [impl_relation.l1, if_neg (show ¬ (n : Int) < (n : Int) by omega), next64 i n hi (by omega)]
        rw [part_next]
        exact h
    · refine Ev.step (fun _ => rfl) ?_
      simp only [impl_relation.l0, if_neg (show ¬ (n : Int) < (n : Int) by omega)]
      rw [part_all]
      exact Ev.now _
  -- the least test that answers so
  have h0 := main (fun x y => if 0 ≤ x ∧ x < n ∧ 0 ≤ y ∧ y < n then some (p x.toNat y.toNat) else none) (fun i j hi hj => by
    show (if _ then _ else _) = _
    rw [if_pos ⟨by omega, by omega, by omega, by omega⟩, Int.toNat_natCast, Int.toNat_natCast])
  obtain ⟨K', hK'⟩ := h0
  refine ⟨max K K' + 1, fun k hk => ?_⟩
  obtain ⟨d, rfl⟩ : ∃ d, k = d + 1 := ⟨k - 1, by omega⟩
  refine impl_relation.mono2 (is := fun x y => if 0 ≤ x ∧ x < n ∧ 0 ≤ y ∧ y < n then some (p x.toNat y.toNat) else none) (is' := g (d + 1)) (fun x y r hr => ?_) (n : Int) d _ (hK' d (by omega))
  by_cases hxy : 0 ≤ x ∧ x < n ∧ 0 ≤ y ∧ y < n
  · rw [if_pos hxy] at hr
    obtain ⟨i, rfl⟩ := Int.eq_ofNat_of_zero_le hxy.1
    obtain ⟨j, rfl⟩ := Int.eq_ofNat_of_zero_le hxy.2.2.1
    rw [Int.toNat_natCast, Int.toNat_natCast] at hr
    rw [hK (d + 1) (by omega) i j (by omega) (by omega)]
    exact hr
  · rw [if_neg hxy] at hr
    cases hr
end Go.Proofs.YtjdkcafpgebjfaaDoor.M
namespace Go.Proofs.YtjdkcafpgebjfaaDoor.M
open Go.RowKit Go.Proofs.YtjdkcafpgebjfaaDoorW.PrintMore Go.Proofs.YtjdkcafpgebjfaaDoorW.PrintLast Go.Proofs.YtjdkcafpgebjfaaDoorW.PrintWords Go.Proofs.YtjdkcafpgebjfaaDoor.P
def Tot {α : Type} (g : Nat → Option α) (Q : α → Prop) : Prop := ∃ r, Ev g r ∧ Q r
section
variable {α β : Type} {Q : α → Prop} {R : β → Prop}
theorem Tot.now {r : α} (h : Q r) : Tot (fun _ => some r) Q := ⟨r, Ev.now r, h⟩
theorem Tot.step {g f : Nat → Option α} (h : ∀ k, g (k + 1) = f k) (k : Tot f Q) : Tot g Q := by obtain ⟨r, k, hq⟩ := k; exact ⟨r, Ev.step h k, hq⟩
theorem Tot.bind {g : Nat → Option α} {f : Nat → α → Option β} (h : Tot g Q) (k : ∀ a, Q a → Tot (fun n => f n a) R) : Tot (fun n => (g n).bind (f n)) R := by
  obtain ⟨a, h, hq⟩ := h
  obtain ⟨r, k, hr⟩ := k a hq
  exact ⟨r, Ev.bind h k, hr⟩
theorem Tot.ebind {g : Nat → Option α} {f : Nat → α → Option β} {a : α} (h : Ev g a) (k : Tot (fun n => f n a) R) : Tot (fun n => (g n).bind (f n)) R := by
  obtain ⟨r, k, hr⟩ := k
  exact ⟨r, Ev.bind h k, hr⟩
theorem Tot.obind {x : Option α} {f : Nat → α → Option β} (h : ∃ r, x = some r ∧ Q r) (k : ∀ a, Q a → Tot (fun n => f n a) R) : Tot (fun n => x.bind (f n)) R := by
  obtain ⟨a, rfl, hq⟩ := h
  exact k a hq
theorem Tot.ite {c : Prop} [Decidable c] {f g : Nat → Option α} (h1 : c → Tot f Q) (h2 : ¬ c → Tot g Q) : Tot (fun k => if c then f k else g k) Q := by
  by_cases h : c
  · simp only [if_pos h]; exact h1 h
  · simp only [if_neg h]; exact h2 h
theorem Tot.up {S : Type} (G : Nat → S → Nat → Option α) (n : Nat) (Inv : Nat → S → Prop)
    (step : ∀ i s, i < n → Inv i s → (∀ s', Inv (i + 1) s' → Tot (G (i + 1) s') Q) → Tot (G i s) Q) (stop : ∀ s, Inv n s → Tot (G n s) Q) (i : Nat) (hi : i ≤ n) (s : S) (hs : Inv i s) : Tot (G i s) Q := by
  obtain ⟨d, rfl⟩ : ∃ d, n = i + d := ⟨n - i, by omega⟩
  clear hi
  induction d generalizing i s with
  | zero => exact stop s hs
  | succ d ih =>
    refine step i s (by omega) hs fun s' h' => ?_
    exact ih (i + 1) s' h' (fun a b ha => step a b (by omega)) (by rw [show i + 1 + d = i + (d + 1) by omega]; exact stop)
end
def By (l : List Int) : Prop := ∀ x ∈ l, 0 ≤ x ∧ x ≤ 255
theorem by_wf {l : List Int} (h : ∀ x ∈ l, (Lit.int .u8 x).wf = true) : By l := by
  intro x hx
  have := h x hx
  simp [Lit.wf, IntKind.min, IntKind.max, IntKind.signed, IntKind.bits] at this
  omega
theorem By.rd {l : List Int} (h : By l) (i : Nat) : 0 ≤ rd l (i : Int) ∧ rd l (i : Int) ≤ 255 := by
  rw [rd_nat]
  by_cases hi : i < l.length
  · have := h l[i] (List.getElem_mem hi)
    simpa [hi] using this
  · simp [Nat.not_lt.1 hi]
theorem and_255 (x : Int) : 0 ≤ Go.bits .and .u64 x 255 ∧ Go.bits .and .u64 x 255 ≤ 255 := by
  have e : Go.bits .and .u64 x 255 = IntKind.u64.wrap (((BitVec.ofInt 64 x).toNat &&& 255 : Nat) : Int) := by
    show IntKind.u64.wrap ((BitVec.ofInt 64 x &&& BitVec.ofInt 64 255).toNat : Int) = _
    rw [BitVec.toNat_and]; rfl
  have h : (BitVec.ofInt 64 x).toNat &&& 255 ≤ 255 := Nat.and_le_right
  rw [e, u64_small _ (by omega)]
  omega
theorem wrap64_in (x : Int) (h0 : -9223372036854775808 ≤ x) (h1 : x ≤ 9223372036854775807) : wrap64 x = x := by unfold wrap64; omega
theorem next_ok {l : List Int} (hb : By l) (p h : Int) (hp : 0 ≤ p) (hp2 : p ≤ 1000000) : ∃ r, spec_l1Cur_next.f l p h = some r ∧ 0 ≤ r.1 ∧ r.1 ≤ 255 ∧ r.2.1 = p + 1 := by
  unfold spec_l1Cur_next.f
  obtain ⟨i, rfl⟩ := Int.eq_ofNat_of_zero_le hp
  have h1 := hb.rd i
  rw [wrap64_in ((i : Int) + 1) (by omega) (by omega)]
  have ha := fun x => and_255 x
  by_cases h0 : (i : Int) < (l.length : Int)
  · rw [if_pos h0, if_pos hp, if_pos (show (i : Int) + 1 ≤ (l.length : Int) by omega)]
    exact ⟨_, rfl, by rw [wrap64_in _ (by omega) (by omega)]; omega, by rw [wrap64_in _ (by omega) (by omega)]; omega, rfl⟩
  · rw [if_neg h0, if_neg (show ¬ (i : Int) + 1 ≤ (l.length : Int) by omega)]
    refine ⟨_, rfl, ?_, ?_, rfl⟩
    · have := ha ((IntKind.u64.wrap (IntKind.u64.wrap (IntKind.u64.wrap (h * 6364136223846793005)) + 1442695040888963407)) / 1099511627776)
      rw [wrap64_in _ (by omega) (by omega)]; exact this.1
    · have := ha ((IntKind.u64.wrap (IntKind.u64.wrap (IntKind.u64.wrap (h * 6364136223846793005)) + 1442695040888963407)) / 1099511627776)
      rw [wrap64_in _ (by omega) (by omega)]; exact this.2
theorem pick_ok {l : List Int} (hb : By l) (p h a : Int) (hp : 0 ≤ p) (hp2 : p ≤ 999990) : ∃ r, spec_l1Cur_pick.f l p h a = some r ∧ 0 ≤ r.1 ∧ (r.1 = 0 ∨ r.1 < a) ∧ p ≤ r.2.1 ∧ r.2.1 ≤ p + 2 := by
  unfold spec_l1Cur_pick.f
  by_cases h1 : a ≤ 1
  · rw [if_pos h1]; exact ⟨_, rfl, by simp, by simp, by simp, by simp; omega⟩
  · rw [if_neg h1]
    obtain ⟨⟨v, p1, h'⟩, e, a1, a2, a3⟩ := next_ok hb p h hp (by omega)
    simp only at a1 a2 a3
    subst a3
    rw [e, Option.bind_some]
    by_cases h2 : a > 200
    · rw [if_pos h2]
      obtain ⟨⟨v2, p2, h''⟩, e2, b1, b2, b3⟩ := next_ok hb (p + 1) h' (by omega) (by omega)
      simp only at b1 b2 b3
      subst b3
      rw [e2, Option.bind_some, if_neg (by omega)]
      refine ⟨_, rfl, ?_, ?_, by simp; omega, by simp; omega⟩
      all_goals
        simp only
        rw [wrap64_in (v * 256) (by omega) (by omega), wrap64_in (v * 256 + v2) (by omega) (by omega), Int.tmod_eq_emod_of_nonneg (by omega)]
      · exact Int.emod_nonneg _ (by omega)
      · exact .inr (Int.emod_lt_of_pos _ (by omega))
    · rw [if_neg h2, if_neg (by omega)]
      refine ⟨_, rfl, ?_, ?_, by simp only; omega, by simp only; omega⟩
      all_goals
        simp only
        rw [Int.tmod_eq_emod_of_nonneg (by omega)]
      · exact Int.emod_nonneg _ (by omega)
      · exact .inr (Int.emod_lt_of_pos _ (by omega))
theorem one_ok {l : List Int} (hb : By l) (p h a : Int) (hp : 0 ≤ p) (hp2 : p ≤ 999990) : ∃ r, spec_l1Cur_one.f l p h a = some r ∧ p ≤ r.2.1 ∧ r.2.1 ≤ p + 2 := by
  obtain ⟨r, e, h1⟩ := pick_ok hb p h a hp hp2
  unfold spec_l1Cur_one.f
  rw [e]
  exact ⟨_, rfl, h1.2.2.1, h1.2.2.2⟩
theorem among_ok {l : List Int} (hb : By l) (p h : Int) (z : List Int) (hz : z ≠ []) (hp : 0 ≤ p) (hp2 : p ≤ 999990) : ∃ r, spec_l1Cur_among.f l p h z = some r ∧ r.1 ∈ z ∧ p ≤ r.2.1 ∧ r.2.1 ≤ p + 2 := by
  obtain ⟨r, e, h1, h2, h3⟩ := pick_ok hb p h (z.length : Int) hp hp2
  have hz' := List.length_pos_iff.2 hz
  unfold spec_l1Cur_among.f
  rw [e, Option.bind_some, if_pos h1, if_pos (by omega)]
  refine ⟨_, rfl, ?_, h3⟩
  obtain ⟨i, hi⟩ := Int.eq_ofNat_of_zero_le h1
  simp only [hi]
  rw [rd_get z i (by omega)]
  exact List.getElem_mem _
theorem orHas_ok (s j : Int) (hj : 0 ≤ j) : ∃ r, spec_orHas.f s j = some r ∧ True := by unfold spec_orHas.f; rw [if_pos hj]; exact ⟨_, rfl, trivial⟩
theorem l1Own_eq (l : List Int) (h : l.length < 17592186044416) : spec_l1Own.f l = some l := by
  unfold spec_l1Own.f
  simp [h]
theorem close_tot (n : Int) (l : List Int) (hl : l.length ≤ 140737488355328) : Tot (fun k => spec_CloseRelation.f k n l) (fun r => 0 ≤ r.1 ∧ (r.1 = 0 ∨ r.1 = n) ∧ r.1 ≤ 10 ∧ (r.2.1.length : Int) = r.1 ∧ r.2.2 = isRel n l) := by
  unfold spec_CloseRelation.f
  refine Tot.ebind (orRelation_ev n l hl) ?_
  cases hr : isRel n l with
  | false => simp only [Bool.false_eq_true, if_false]; exact Tot.now (by simp)
  | true =>
    obtain ⟨m, rfl, h⟩ := isRel_iff.1 hr
    have hlen := h.len
    have h10 := h.le
    simp only [if_true, l1Own_eq l (by omega), Option.bind_some, hlen]
    refine Tot.up (fun i s k => spec_CloseRelation.l0 k (m : Int) (i : Int) (m : Int) s) m (fun _ s => s.length = m) ?_ ?_ 0 (Nat.zero_le _) l hlen
    · intro i s hi hs next
      refine Tot.step (fun _ => rfl) ?_
      simp only [spec_CloseRelation.l0, if_pos (show (i : Int) < (m : Int) by omega), hs]
      refine Tot.up (fun j s k => spec_CloseRelation.l1 k (i : Int) (m : Int) (i : Int) (m : Int) (j : Int) (m : Int) s) m (fun _ s => s.length = m) ?_ ?_ 0 (Nat.zero_le _) s hs
      · intro j s hj hs next
        refine Tot.step (fun _ => rfl) ?_
        simp only [spec_CloseRelation.l1, hs, if_pos (show (j : Int) < (m : Int) by omega), if_pos (show (i : Int) < (m : Int) by omega), if_pos (show (0 : Int) ≤ (i : Int) by omega), if_pos (show (0 : Int) ≤ (j : Int) by omega), next64 j m hj (by omega)]
        refine Tot.obind (orHas_ok _ _ (by omega)) fun b _ => ?_
        refine Tot.ite (fun _ => ?_) (fun _ => ?_)
        · exact next _ (by simpa using hs)
        · exact next _ hs
      · intro s hs
        refine Tot.step (fun _ => rfl) ?_
        simp only [spec_CloseRelation.l1, if_neg (show ¬ (m : Int) < (m : Int) by omega), next64 i m hi (by omega)]
        exact next _ hs
    · intro s hs
      refine Tot.step (fun _ => rfl) ?_
      simp only [spec_CloseRelation.l0, if_neg (show ¬ (m : Int) < (m : Int) by omega)]
      exact Tot.now (by simp [hs]; omega)
theorem order_tot {l : List Int} (hb : By l) (p h a : Int) (hp : 0 ≤ p) (hp2 : p ≤ 999000) (ha0 : 0 ≤ a) (ha : a ≤ 10) :
    Tot (fun k => spec_l1Cur_order.f k l p h a) (fun r => 0 ≤ r.1 ∧ r.1 ≤ a ∧ (r.2.1.length : Int) = r.1 ∧ p ≤ r.2.2.1 ∧ r.2.2.1 ≤ p + 400) := by
  unfold spec_l1Cur_order.f
  rw [wrap64_in (a + 1) (by omega) (by omega)]
  refine Tot.obind (pick_ok hb p h (a + 1) hp (by omega)) ?_
  rintro ⟨n, p1, h1⟩ ⟨n0, n1, n2, n3⟩
  simp only at n0 n1 n2 n3
  simp only [if_pos n0]
  obtain ⟨m, rfl⟩ := Int.eq_ofNat_of_zero_le n0
  have hm : m ≤ 10 := by omega
  rw [Int.toNat_natCast]
  simp only [if_pos (show m ≤ 35184372088832 by omega)]
  refine Tot.obind (pick_ok hb p1 h1 3 (by omega) (by omega)) ?_
  rintro ⟨kd, p2, h2⟩ ⟨k0, k1, k2, k3⟩
  simp only at k0 k1 k2 k3
  refine Tot.up (fun i (s : List Int × List Int × Int × Int) k => spec_l1Cur_order.l0 k (m : Int) kd s.1 s.2.1 (i : Int) l s.2.2.1 s.2.2.2 (m : Int) (List.replicate m 0)) m
    (fun i s => s.1.length = i ∧ s.2.1.length = i ∧ p ≤ s.2.2.1 ∧ s.2.2.1 ≤ p + 4 + 4 * (i : Int)) ?_ ?_ 0 (Nat.zero_le _) ([], [], p2, h2) ⟨rfl, rfl, by simp only; omega, by simp only; omega⟩
  · rintro i ⟨x8, x9, p3, h3⟩ hi ⟨s1, s2, s3, s4⟩ next
    simp only at s1 s2 s3 s4
    refine Tot.step (fun _ => rfl) ?_
    simp only [spec_l1Cur_order.l0, if_pos (show (i : Int) < (m : Int) by omega), s1, s2, if_pos (show i < 17592186044416 by omega), next64 i m hi (by omega)]
    refine Tot.obind (pick_ok hb p3 h3 8 (by omega) (by omega)) ?_
    rintro ⟨v, p4, h4⟩ ⟨v0, v1, v2, v3⟩
    simp only at v0 v1 v2 v3
    simp only [Option.bind_some]
    refine Tot.ite (fun _ => ?_) (fun _ => ?_)
    · refine Tot.obind (pick_ok hb p4 h4 4 (by omega) (by omega)) ?_
      rintro ⟨v', p5, h5⟩ ⟨u0, u1, u2, u3⟩
      simp only at u0 u1 u2 u3
      exact next (_, _, _, _) ⟨by simp [s1], by simp [s2], by simp only; omega, by simp only; omega⟩
    · exact next (_, _, _, _) ⟨by simp [s1], by simp [s2], by simp only; omega, by simp only; omega⟩
  · rintro ⟨x8, x9, p3, h3⟩ ⟨s1, s2, s3, s4⟩
    simp only at s1 s2 s3 s4
    refine Tot.step (fun _ => rfl) ?_
    simp only [spec_l1Cur_order.l0, if_neg (show ¬ (m : Int) < (m : Int) by omega)]
    refine Tot.up (fun i (s : Int × Int × List Int) k => spec_l1Cur_order.l1 k (m : Int) kd x8 x9 (i : Int) l s.1 s.2.1 (m : Int) s.2.2) m
      (fun i s => p ≤ s.1 ∧ s.1 ≤ p + 44 + 22 * (i : Int) ∧ s.2.2.length = m) ?_ ?_ 0 (Nat.zero_le _) (p3, h3, List.replicate m 0) ⟨by simp only; omega, by simp only; omega, by simp⟩
    · rintro i ⟨p4, h4, z⟩ hi ⟨t1, t2, t3⟩ next
      simp only at t1 t2 t3
      refine Tot.step (fun _ => rfl) ?_
      simp only [spec_l1Cur_order.l1, if_pos (show (i : Int) < (m : Int) by omega)]
      refine Tot.up (fun j (s : Int × Int × List Int) k => spec_l1Cur_order.l2 k (m : Int) kd x8 x9 (i : Int) (j : Int) l s.1 s.2.1 (m : Int) s.2.2) m
        (fun j s => p ≤ s.1 ∧ s.1 ≤ p + 44 + 22 * (i : Int) + 2 * (j : Int) ∧ s.2.2.length = m) ?_ ?_ 0 (Nat.zero_le _) (p4, h4, z) ⟨by simp only; omega, by simp only; omega, t3⟩
      · rintro j ⟨p5, h5, z⟩ hj ⟨q1, q2, q3⟩ next
        simp only at q1 q2 q3
        have hone : ∀ v p' h' , p ≤ p' → p' ≤ p5 + 2 → Tot (fun k => spec_l1Cur_order.l2 k (m : Int) kd x8 x9 (i : Int) ((j + 1 : Nat) : Int) l p' h' (m : Int) (z.set i v)) _ := fun v p' h' a1 a2 => next (p', h', z.set i v) ⟨a1, by simp only; omega, by simpa using q3⟩
        have hno : ∀ p' h' , p ≤ p' → p' ≤ p5 + 2 → Tot (fun k => spec_l1Cur_order.l2 k (m : Int) kd x8 x9 (i : Int) ((j + 1 : Nat) : Int) l p' h' (m : Int) z) _ := fun p' h' a1 a2 => next (p', h', z) ⟨a1, by simp only; omega, q3⟩
        refine Tot.step (fun _ => rfl) ?_
        simp only [spec_l1Cur_order.l2, if_pos (show (j : Int) < (m : Int) by omega), s1, s2, q3, if_pos (show (i : Int) < (m : Int) by omega), if_pos (show (0 : Int) ≤ (i : Int) by omega), if_pos (show (0 : Int) ≤ (j : Int) by omega), next64 j m hj (by omega), Int.toNat_natCast]
        refine Tot.ite (fun _ => ?_) (fun _ => ?_)
        · refine Tot.ite (fun _ => ?_) (fun _ => ?_)
          · exact hone _ _ _ (by omega) (by omega)
          · refine Tot.ite (fun _ => ?_) (fun _ => hno _ _ (by omega) (by omega))
            refine Tot.ite (fun _ => ?_) (fun _ => hno _ _ (by omega) (by omega))
            refine Tot.obind (one_ok hb p5 h5 3 (by omega) (by omega)) ?_
            rintro ⟨v, p6, h6⟩ ⟨u2, u3⟩
            simp only at u2 u3
            dsimp only
            exact Tot.ite (fun _ => hone _ _ _ (by omega) (by omega)) (fun _ => hno _ _ (by omega) (by omega))
        · refine Tot.ite (fun _ => ?_) (fun _ => hno _ _ (by omega) (by omega))
          refine Tot.ite (fun _ => ?_) (fun _ => hno _ _ (by omega) (by omega))
          refine Tot.obind (one_ok hb p5 h5 3 (by omega) (by omega)) ?_
          rintro ⟨v, p6, h6⟩ ⟨u2, u3⟩
          simp only at u2 u3
          dsimp only
          exact Tot.ite (fun _ => hone _ _ _ (by omega) (by omega)) (fun _ => hno _ _ (by omega) (by omega))
      · rintro ⟨p5, h5, z⟩ ⟨q1, q2, q3⟩
        simp only at q1 q2 q3
        refine Tot.step (fun _ => rfl) ?_
        simp only [spec_l1Cur_order.l2, if_neg (show ¬ (m : Int) < (m : Int) by omega), next64 i m hi (by omega)]
        exact next (p5, h5, z) ⟨q1, by simp only; omega, q3⟩
    · rintro ⟨p4, h4, z⟩ ⟨t1, t2, t3⟩
      simp only at t1 t2 t3
      refine Tot.step (fun _ => rfl) ?_
      simp only [spec_l1Cur_order.l1, if_neg (show ¬ (m : Int) < (m : Int) by omega)]
      refine Tot.ite (fun _ => Tot.now ⟨by simp only; omega, by simp only; omega, by simp only; omega, by simp only; omega, by simp only; omega⟩) (fun _ => ?_)
      refine Tot.bind (close_tot (m : Int) z (by omega)) ?_
      rintro ⟨a1, a2, a3⟩ ⟨c1, c2, c3, c4⟩
      exact Tot.now ⟨by simp only; omega, by simp only at c2 ⊢; omega, by simp only at c4 ⊢; omega, by simp only; omega, by simp only; omega⟩
theorem relation_tot {l : List Int} (hb : By l) (p h a : Int) (hp : 0 ≤ p) (hp2 : p ≤ 999000) (ha0 : 0 ≤ a) (ha : a ≤ 10) :
    Tot (fun k => spec_l1Cur_relation.f k l p h a) (fun r => 0 ≤ r.1 ∧ r.1 ≤ a ∧ (r.2.1.length : Int) = r.1 ∧ p ≤ r.2.2.1 ∧ r.2.2.1 ≤ p + 400) := by
  unfold spec_l1Cur_relation.f
  rw [wrap64_in (a + 1) (by omega) (by omega)]
  refine Tot.obind (pick_ok hb p h (a + 1) hp (by omega)) ?_
  rintro ⟨n, p1, h1⟩ ⟨n0, n1, n2, n3⟩
  simp only at n0 n1 n2 n3
  obtain ⟨m, rfl⟩ := Int.eq_ofNat_of_zero_le n0
  have hm : m ≤ 10 := by omega
  refine Tot.up (fun i (s : Int × Int × List Int) k => spec_l1Cur_relation.l0 k l s.1 s.2.1 (m : Int) s.2.2) m
    (fun i s => p ≤ s.1 ∧ s.1 ≤ p + 2 + 20 * (i : Int) ∧ s.2.2.length = i) ?_ ?_ 0 (Nat.zero_le _) (p1, h1, []) ⟨by simp only; omega, by simp only; omega, rfl⟩
  · rintro i ⟨p2, h2, z⟩ hi ⟨s1, s2, s3⟩ next
    simp only at s1 s2 s3
    refine Tot.step (fun _ => rfl) ?_
    simp only [spec_l1Cur_relation.l0, s3, if_pos (show (i : Int) < (m : Int) by omega)]
    refine Tot.up (fun j (s : Int × Int × Int) k => spec_l1Cur_relation.l1 k s.1 (j : Int) l s.2.1 s.2.2 (m : Int) z) m
      (fun j s => p ≤ s.2.1 ∧ s.2.1 ≤ p + 2 + 20 * (i : Int) + 2 * (j : Int)) ?_ ?_ 0 (Nat.zero_le _) (0, p2, h2) ⟨by simp only; omega, by simp only; omega⟩
    · rintro j ⟨x, p3, h3⟩ hj ⟨q1, q2⟩ next
      simp only at q1 q2
      refine Tot.step (fun _ => rfl) ?_
      simp only [spec_l1Cur_relation.l1, if_pos (show (j : Int) < (m : Int) by omega), if_pos (show (0 : Int) ≤ (j : Int) by omega), next64 j m hj (by omega)]
      refine Tot.obind (one_ok hb p3 h3 4 (by omega) (by omega)) ?_
      rintro ⟨v, p6, h6⟩ ⟨u2, u3⟩
      simp only at u2 u3
      dsimp only
      exact Tot.ite (fun _ => next (_, p6, h6) ⟨by simp only; omega, by simp only; omega⟩) (fun _ => next (_, p6, h6) ⟨by simp only; omega, by simp only; omega⟩)
    · rintro ⟨x, p3, h3⟩ ⟨q1, q2⟩
      simp only at q1 q2
      refine Tot.step (fun _ => rfl) ?_
      simp only [spec_l1Cur_relation.l1, if_neg (show ¬ (m : Int) < (m : Int) by omega), s3, if_pos (show i < 17592186044416 by omega)]
      exact next (p3, h3, z ++ [x]) ⟨q1, by simp only; omega, by simp [s3]⟩
  · rintro ⟨p2, h2, z⟩ ⟨s1, s2, s3⟩
    simp only at s1 s2 s3
    refine Tot.step (fun _ => rfl) ?_
    simp only [spec_l1Cur_relation.l0, s3, if_neg (show ¬ (m : Int) < (m : Int) by omega)]
    exact Tot.now ⟨by simp only; omega, by simp only; omega, by simp only; omega, by simp only; omega, by simp only; omega⟩
theorem anyOrder_tot {l : List Int} (hb : By l) (p h a : Int) (hp : 0 ≤ p) (hp2 : p ≤ 998000) (ha0 : 0 ≤ a) (ha : a ≤ 10) :
    Tot (fun k => spec_l1Cur_anyOrder.f k l p h a) (fun r => r.2.1.length ≤ 10 ∧ p ≤ r.2.2.1 ∧ r.2.2.1 ≤ p + 900) := by
  unfold spec_l1Cur_anyOrder.f
  refine Tot.bind (order_tot hb p h a hp (by omega) ha0 ha) ?_
  rintro ⟨n, z, p1, h1⟩ ⟨n0, n1, n2, n3, n4⟩
  simp only at n0 n1 n2 n3 n4
  refine Tot.obind (pick_ok hb p1 h1 14 (by omega) (by omega)) ?_
  rintro ⟨c, p2, h2⟩ ⟨k0, k1, k2, k3⟩
  simp only at k0 k1 k2 k3
  simp only []
  refine Tot.ite (fun _ => ?_) (fun _ => Tot.ite (fun _ => ?_) (fun _ => Tot.ite (fun _ => ?_) (fun _ => Tot.ite (fun _ => ?_) (fun _ => ?_))))
  · refine Tot.bind (relation_tot hb p2 h2 a (by omega) (by omega) ha0 ha) ?_
    rintro ⟨n', z', p', h'⟩ ⟨m0, m1, m2, m3, m4⟩
    simp only at m0 m1 m2 m3 m4
    exact Tot.now ⟨by simp only; omega, by simp only; omega, by simp only; omega⟩
  · refine Tot.obind (among_ok hb p2 h2 _ (by simp) (by omega) (by omega)) ?_
    rintro ⟨v, p', h'⟩ ⟨_, m3, m4⟩
    simp only at m3 m4
    exact Tot.now ⟨by simp only; omega, by simp only; omega, by simp only; omega⟩
  · refine Tot.ite (fun hz => ?_) (fun _ => Tot.now ⟨by simp only; omega, by simp only; omega, by simp only; omega⟩)
    refine Tot.obind (pick_ok hb p2 h2 _ (by omega) (by omega)) ?_
    rintro ⟨v, p', h'⟩ ⟨v0, v1, m3, m4⟩
    simp only at v0 v1 m3 m4
    simp only [if_pos n0]
    refine Tot.obind (among_ok hb p' h' _ (by simp) (by omega) (by omega)) ?_
    rintro ⟨v', p'', h''⟩ ⟨_, m5, m6⟩
    simp only at m5 m6
    simp only [if_pos v0]
    rw [if_pos (show v < (z.length : Int) by omega)]
    exact Tot.now ⟨by simp only [List.length_set]; omega, by simp only; omega, by simp only; omega⟩
  · refine Tot.bind (order_tot hb p2 h2 10 (by omega) (by omega) (by omega) (by omega)) ?_
    rintro ⟨n', z', p', h'⟩ ⟨m0, m1, m2, m3, m4⟩
    simp only at m0 m1 m2 m3 m4
    exact Tot.now ⟨by simp only; omega, by simp only; omega, by simp only; omega⟩
  · exact Tot.now ⟨by simp only; omega, by simp only; omega, by simp only; omega⟩
end Go.Proofs.YtjdkcafpgebjfaaDoor.M
namespace Go.Proofs.YtjdkcafpgebjfaaDoor.P
open Bool renaming true → T, false → F
open List renaming setIfInBounds_toArray → L_, set_cons_zero → M_, set_cons_succ → N_
open Go.RowKit Go.Proofs.YtjdkcafpgebjfaaDoorW.PrintWords Go.Proofs.YtjdkcafpgebjfaaDoorW.PrintLast Go.Proofs.YtjdkcafpgebjfaaDoorW.PrintMore
attribute [local go_sem] max2_int min2_int max_two min_two max_three min_three max_four min_four
set_option linter.unusedVariables false
set_option linter.unusedSimpArgs false
attribute [local go_sem] fldOrder_0 fldOrder_1
def spec_orMirror.l0 : Nat → Int → Int → Int → List Int → Int → List Int → Option (Int × List Int)
 | 0, _, _, _, _, _, _ => none
 | k + 1, x10, x11, x600000, x600001, x602000, x602001 => if x11 < x10 then ((spec_orBelow.f k x600000 x600001 x11).bind fun t602 => (if x602001.length < 17592186044416 then (spec_orMirror.l0 k x10 (wrap64 (x11 + 1)) x600000 x600001 x602000 (x602001 ++ [t602])) else (none))) else (some (x602000, x602001))
def impl_Order_all.f (a0_0 : Int) (l0_1 : List Int) : Option (Int) := if 0 ≤ a0_0 then (some (wrap64 ((shl .i64 1 a0_0) - 1))) else (none)
def impl_Order_indifferent.l0 : Nat → List Int → Int → Int → Int → List Int → Int → List Int → Option (List Int)
 | 0, _, _, _, _, _, _, _ => none
 | k + 1, x3, x10, x11, x376000, x376001, x384000, x384001 => if x11 < x10 then ((impl_Order_all.f x376000 x376001).bind fun t384 => (if 0 ≤ x11 then (if x11 < (x376001.length : Int) then (if x11 < (x384001.length : Int) then (if x3.length < 17592186044416 then (impl_Order_indifferent.l0 k (x3 ++ [Go.bits .andNot .i64 (Go.bits .andNot .i64 (Go.bits .andNot .i64 t384 (rd x376001 x11)) (rd x384001 x11)) (shl .i64 1 x11)]) x10 (wrap64 (x11 + 1)) x376000 x376001 x384000 x384001) else (none)) else (none)) else (none)) else (none))) else (some x3)
def laws_pSame.l0 : Nat → List Int → List Int → Int → Int → Option (Bool)
 | 0, _, _, _, _ => none
 | k + 1, x0, x1, x12, x13 => if x13 < x12 then (if 0 ≤ x13 then (if x13 < (x0.length : Int) then (if x13 < (x1.length : Int) then (if (rd x0 x13) = (rd x1 x13) then (laws_pSame.l0 k x0 x1 x12 (wrap64 (x13 + 1))) else (some false)) else (none)) else (none)) else (none)) else (some true)
end Go.Proofs.YtjdkcafpgebjfaaDoor.P
namespace Go.Proofs.YtjdkcafpgebjfaaDoor.P
open Bool renaming true → T, false → F
open List renaming setIfInBounds_toArray → L_, set_cons_zero → M_, set_cons_succ → N_
open Go.RowKit Go.Proofs.YtjdkcafpgebjfaaDoorW.PrintWords Go.Proofs.YtjdkcafpgebjfaaDoorW.PrintLast Go.Proofs.YtjdkcafpgebjfaaDoorW.PrintMore
attribute [local go_sem] max2_int min2_int max_two min_two max_three min_three max_four min_four
set_option linter.unusedVariables false
set_option linter.unusedSimpArgs false
attribute [local go_sem] fldOrder_0 fldOrder_1
end Go.Proofs.YtjdkcafpgebjfaaDoor.P
namespace Go.Proofs.YtjdkcafpgebjfaaDoor.M
open Go.RowKit Go.Proofs.YtjdkcafpgebjfaaDoorW.PrintMore Go.Proofs.YtjdkcafpgebjfaaDoorW.PrintLast Go.Proofs.YtjdkcafpgebjfaaDoorW.PrintWords Go.Proofs.YtjdkcafpgebjfaaDoor.P
def mir (n : Nat) (l : List Int) : List Int := relL n fun i j => B l j i
theorem mir_rel {n : Nat} {l : List Int} (h : Rel n l) : Rel n (mir n l) := relL_rel n h.le _
theorem mir_B {n : Nat} {l : List Int} (h : Rel n l) (i j : Nat) : B (mir n l) i j = B l j i := by
  unfold mir
  rw [relL_B]
  cases hb : B l j i with
  | false => simp
  | true => simp [h.B_lt hb, h.B_lt' hb]
theorem mirror_ev {n : Nat} {l : List Int} (h : Rel n l) : Ev (fun k => impl_Order_mirror.f k (n : Int) l) ((n : Int), mir n l) := by
  have hn := h.le
  unfold impl_Order_mirror.f
  refine Ev.bind (relation_ev n (by omega) (fun _ x y => impl_Order_mirror_1.f x y (n : Int) l) (fun i j => B l j i) ?_) (Ev.now _)
  intro i j hi hj
  refine Ev.const ?_
  unfold impl_Order_mirror_1.f
  rw [better_eq h n j i hj (by omega)]
  rfl
theorem orBelow_ev {n : Nat} {l : List Int} (h : Rel n l) (z : Int) (i : Nat) (hi : i ≤ 62) : Ev (fun k => spec_orBelow.f k z l (i : Int)) ((setOf n fun j => B l j i : Nat) : Int) := by
  have hlen := h.len
  have hn := h.le
  unfold spec_orBelow.f
  rw [hlen]
  refine Ev.up (fun j k => spec_orBelow.l0 k (i : Int) ((setOf j fun j => B l j i : Nat) : Int) l (n : Int) (j : Int)) n ?_ ?_
  · intro j hj next
    refine Ev.step (fun _ => rfl) ?_
    rw [setOf_bit_or] at next
    simp only [spec_orBelow.l0, if_pos (show (j : Int) < (n : Int) by omega), if_pos (show (0 : Int) ≤ (j : Int) by omega), hlen, h.rd, orHas_eq _ i (by omega), Option.bind_some, next64 j n hj (by omega)]
    rw [show (row l j).testBit i = B l j i from rfl]
    cases hb : B l j i with
    | false =>
      rw [hb] at next
      simpa using next
    | true =>
      rw [hb] at next
      have h2 : (2 : Nat) ^ j < 9223372036854775808 := Nat.lt_of_le_of_lt (Nat.pow_le_pow_right (by decide) (by omega : j ≤ 62)) (by decide)
      simp only [if_true]
      rw [shl1 j (by omega), or_i64 (setOf j fun j => B l j i) (2 ^ j) (setOf_62 _ _ (by omega)) h2]
      simpa using next
  · refine Ev.step (fun _ => rfl) ?_
    simp only [spec_orBelow.l0, if_neg (show ¬ (n : Int) < (n : Int) by omega)]
    exact Ev.now _
theorem pIn_eq (s j : Nat) (hj : j ≤ 64) : laws_pIn.f (s : Int) (j : Int) = some (s.testBit j) := by
  unfold laws_pIn.f
  rw [if_pos (by omega), has_mod _ _ (by omega) hj, bit_cast]
end Go.Proofs.YtjdkcafpgebjfaaDoor.M
namespace Go.Proofs.YtjdkcafpgebjfaaDoor.M
open Go.RowKit Go.Proofs.YtjdkcafpgebjfaaDoorW.PrintMore Go.Proofs.YtjdkcafpgebjfaaDoorW.PrintLast Go.Proofs.YtjdkcafpgebjfaaDoorW.PrintWords Go.Proofs.YtjdkcafpgebjfaaDoor.P
theorem ints_of {z : List Int} (h : ∀ x ∈ z, 0 ≤ x) : z = ints (z.map Int.toNat) := by
  unfold ints
  rw [List.map_map]
  conv => lhs; rw [← List.map_id z]
  apply List.map_congr_left
  intro x hx
  have := h x hx
  simp; omega
theorem ints_nat (l : List Nat) : (ints l).map Int.toNat = l := by
  unfold ints
  rw [List.map_map]
  conv => rhs; rw [← List.map_id l]
  apply List.map_congr_left
  intro x _
  simp
theorem ints_take (a : List Nat) (i : Nat) : (ints a).take i = ints (a.take i) := by simp [ints]
theorem ints_rd (l : List Nat) (q : Nat) (h : q < l.length) : rd (ints l) (q : Int) = ((l.getD q 0 : Nat) : Int) := by rw [rd_nat, ints_getD _ _ h]
theorem take_next (l : List Nat) (i : Nat) (h : i < l.length) : l.take (i + 1) = l.take i ++ [l.getD i 0] := by
  rw [List.take_add_one]
  simp [h]
theorem getD_mem (l : List Nat) (i : Nat) (h : i < l.length) : l.getD i 0 ∈ l := by simp [h]
def setN (l : List Nat) : Nat := l.foldl (fun s x => s ||| 2 ^ x) 0
theorem setN_snoc (l : List Nat) (x : Nat) : setN (l ++ [x]) = setN l ||| 2 ^ x := by simp [setN]
theorem testBit_setN (l : List Nat) (j : Nat) : (setN l).testBit j = decide (j ∈ l) := by
  have key : ∀ (l : List Nat) (s : Nat), (l.foldl (fun s x => s ||| 2 ^ x) s).testBit j = (s.testBit j || decide (j ∈ l)) := by
    intro l
    induction l with
    | nil => intro s; simp
    | cons x l ih =>
      intro s
      rw [List.foldl_cons, ih, Nat.testBit_or, Nat.testBit_two_pow]
      by_cases h : x = j
      · subst h; simp
      · have : ¬ j = x := fun e => h e.symm
        simp [h, this]
  rw [setN, key]; simp
theorem setN_lt (l : List Nat) (n : Nat) (h : ∀ x ∈ l, x < n) : setN l < 2 ^ n := by
  apply Nat.lt_pow_two_of_testBit
  intro j hj
  rw [testBit_setN, decide_eq_false_iff_not]
  intro hm
  have := h j hm
  omega
theorem setN_62 (l : List Nat) (n : Nat) (hn : n ≤ 62) (h : ∀ x ∈ l, x < n) : setN l < 9223372036854775808 := lt62 (setN_lt l n h) hn
theorem pow_62 (j : Nat) (h : j ≤ 62) : (2 : Nat) ^ j < 9223372036854775808 := Nat.lt_of_le_of_lt (Nat.pow_le_pow_right (by decide) h) (by decide)
theorem or_set (s j : Nat) (hs : s < 9223372036854775808) (hj : j ≤ 62) : Go.bits .or .i64 (s : Int) (shl .i64 1 (j : Int)) = ((s ||| 2 ^ j : Nat) : Int) := by
  rw [shl1 j hj, or_i64 _ _ hs (pow_62 j hj)]
theorem and_bit (s j : Nat) (hs : s < 9223372036854775808) (hj : j ≤ 64) : Go.bits .and .i64 (shr .i64 (s : Int) (j : Int)) 1 = if s.testBit j then 1 else 0 := by
  have hl : s / 2 ^ j < 9223372036854775808 := Nat.lt_of_le_of_lt (Nat.div_le_self _ _) (by omega)
  rw [shr_nat s j hj, show (1 : Int) = ((1 : Nat) : Int) from rfl, and_i64 _ 1 hl (by decide), and_one]
  cases s.testBit j <;> rfl
theorem orSet_ev (l : List Nat) (n : Nat) (hn : n ≤ 62) (h : ∀ x ∈ l, x < n) (hl : l.length ≤ 140737488355328) : Ev (fun k => spec_orSet.f k (ints l)) ((setN l : Nat) : Int) := by
  unfold spec_orSet.f
  rw [ints_length]
  have e0 : setN l = setN (l.take l.length) := by rw [List.take_length]
  rw [e0]
  refine Ev.up (fun i k => spec_orSet.l0 k ((setN (l.take i) : Nat) : Int) (ints l) (l.length : Int) (i : Int)) l.length ?_ ?_
  · intro i hi next
    have hm := h _ (getD_mem l i hi)
    refine Ev.step (fun _ => rfl) ?_
    simp only [spec_orSet.l0, if_pos (show (i : Int) < (l.length : Int) by omega), if_pos (show (0 : Int) ≤ (i : Int) by omega), ints_length, ints_rd l i hi, if_pos (show (0 : Int) ≤ ((l.getD i 0 : Nat) : Int) by omega),
      or_set _ _ (setN_62 (l.take i) n hn fun x hx => h x (List.mem_of_mem_take hx)) (show l.getD i 0 ≤ 62 by omega), ← setN_snoc, ← take_next l i hi, next64 i l.length hi hl]
    exact next
  · refine Ev.step (fun _ => rfl) ?_
    simp only [spec_orSet.l0, if_neg (show ¬ (l.length : Int) < (l.length : Int) by omega)]
    exact Ev.now _
def isName (n : Nat) (z : List Int) : Bool := allIn z 0 ((n : Int) - 1) && (decide (z.length = n) && setN (z.map Int.toNat) == 2 ^ n - 1)
theorem allIn_nat {z : List Int} {n : Nat} (h : allIn z 0 ((n : Int) - 1) = true) : ∃ l, z = ints l ∧ ∀ x ∈ l, x < n := by
  have h := of_decide_eq_true h
  refine ⟨z.map Int.toNat, ints_of fun x hx => (h x hx).1, ?_⟩
  intro x hx
  rw [List.mem_map] at hx
  obtain ⟨y, hy, rfl⟩ := hx
  have := h y hy
  omega
theorem pow_m1 (n : Nat) (hn : n ≤ 10) : wrap64 (shl .i64 1 (n : Int) - 1) = ((2 ^ n - 1 : Nat) : Int) := by
  rw [pow_of n (by omega) (by omega), Int.toNat_natCast]
  have := Nat.two_pow_pos n
  omega
theorem beq_cast (a b : Nat) : (((a : Int)) == ((b : Nat) : Int)) = (a == b) := by
  rw [Bool.eq_iff_iff, beq_iff_eq, beq_iff_eq]; omega
theorem isNaming_ev (n : Nat) (hn : n ≤ 10) (z : List Int) (hz : z.length ≤ 140737488355328) : Ev (fun k => impl_isNaming.f k z (n : Int)) (isName n z) := by
  unfold impl_isNaming.f isName
  rw [wrap64_in _ (by omega) (by omega)]
  refine Ev.bind (allWithin_ev z _ _ hz) ?_
  cases ha : allIn z 0 ((n : Int) - 1) with
  | false => simp only [Bool.false_eq_true, if_false, Bool.false_and]; exact Ev.now _
  | true =>
    obtain ⟨l, rfl, hl⟩ := allIn_nat ha
    rw [ints_length] at hz
    simp only [if_true, Bool.true_and, ints_length, ints_nat]
    refine Ev.up (fun i k => impl_isNaming.l0 k (ints l) (n : Int) ((setN (l.take i) : Nat) : Int) (ints l) (l.length : Int) (i : Int)) l.length ?_ ?_
    · intro i hi next
      have hm := hl _ (getD_mem l i hi)
      refine Ev.step (fun _ => rfl) ?_
      simp only [impl_isNaming.l0, if_pos (show (i : Int) < (l.length : Int) by omega), if_pos (show (0 : Int) ≤ (i : Int) by omega), ints_length, ints_rd l i hi, if_pos (show (0 : Int) ≤ ((l.getD i 0 : Nat) : Int) by omega),
        or_set _ _ (setN_62 (l.take i) n (by omega) fun x hx => hl x (List.mem_of_mem_take hx)) (show l.getD i 0 ≤ 62 by omega), ← setN_snoc, ← take_next l i hi, next64 i l.length hi hz]
      exact next
    · refine Ev.step (fun _ => rfl) ?_
      simp only [impl_isNaming.l0, if_neg (show ¬ (l.length : Int) < (l.length : Int) by omega), ints_length, List.take_length]
      by_cases h : l.length = n
      · simp only [if_pos (show (l.length : Int) = (n : Int) by omega), if_pos (show (0 : Int) ≤ (n : Int) by omega), pow_m1 n hn, decide_eq_true h, Bool.true_and, beq_cast]
        exact Ev.now _
      · simp only [if_neg (show ¬ (l.length : Int) = (n : Int) by omega), decide_eq_false h, Bool.false_and]
        exact Ev.now _
theorem orNames_ev (n : Nat) (hn : n ≤ 10) (z : List Int) (hz : z.length ≤ 140737488355328) : Ev (fun k => spec_orNames.f k (n : Int) z) (isName n z) := by
  unfold spec_orNames.f isName
  rw [wrap64_in _ (by omega) (by omega)]
  by_cases h : z.length = n
  · simp only [if_pos (show (z.length : Int) = (n : Int) by omega), decide_eq_true h, Bool.true_and]
    refine Ev.bind (l1All_ev z _ _ hz) ?_
    cases ha : allIn z 0 ((n : Int) - 1) with
    | false => simp only [Bool.false_eq_true, if_false, Bool.false_and]; exact Ev.now _
    | true =>
      obtain ⟨l, rfl, hl⟩ := allIn_nat ha
      rw [ints_length] at hz
      simp only [if_true, ints_nat, Bool.true_and]
      refine Ev.bind (orSet_ev l n (by omega) hl hz) ?_
      simp only [if_pos (show (0 : Int) ≤ (n : Int) by omega), pow_m1 n hn, beq_cast]
      exact Ev.now _
  · simp only [if_neg (show ¬ (z.length : Int) = (n : Int) by omega), decide_eq_false h, Bool.false_and, Bool.and_false]
    exact Ev.now _
def bel (n : Nat) (l : List Int) (x : Nat) : Nat := row (mir n l) x
theorem testBit_bel {n : Nat} {l : List Int} (h : Rel n l) (x j : Nat) : (bel n l x).testBit j = B l j x := mir_B h x j
theorem bel_set {n : Nat} (l : List Int) (x : Nat) (hx : x < n) : bel n l x = setOf n fun j => B l j x := relL_row n _ x hx
def isExt (n : Nat) (l : List Int) (z : List Nat) : Bool := allB z.length fun i => diff (bel n l (z.getD i 0)) (setN (z.take i)) == 0
theorem isExtension_ev {n : Nat} {l : List Int} (h : Rel n l) (z : List Int) (hz : z.length ≤ 140737488355328) : Ev (fun k => impl_Order_isExtension.f k (n : Int) l z) (isName n z && isExt n l (z.map Int.toNat)) := by
  have hn := h.le
  have hm := mir_rel h
  unfold impl_Order_isExtension.f
  refine Ev.bind (isNaming_ev n hn z hz) ?_
  cases hN : isName n z with
  | false => simp only [Bool.false_eq_true, if_false, Bool.false_and]; exact Ev.now _
  | true =>
    simp only [if_true, Bool.true_and]
    unfold isName at hN
    rw [Bool.and_eq_true] at hN
    obtain ⟨l', rfl, hl⟩ := allIn_nat hN.1
    rw [ints_length] at hz
    rw [ints_nat]
    refine Ev.bind (mirror_ev h) ?_
    simp only [ints_length]
    have st : ∀ i, i < l'.length → ∀ k, impl_Order_isExtension.l0 (k + 1) ((setN (l'.take i) : Nat) : Int) (ints l') (l'.length : Int) (i : Int) (n : Int) (mir n l) = if diff (bel n l (l'.getD i 0)) (setN (l'.take i)) = 0 then impl_Order_isExtension.l0 k ((setN (l'.take (i + 1)) : Nat) : Int) (ints l') (l'.length : Int) ((i + 1 : Nat) : Int) (n : Int) (mir n l) else some false := by
      intro i hi k
      have hx := hl _ (getD_mem l' i hi)
      have h62 := setN_62 (l'.take i) n (by omega) fun x hx => hl x (List.mem_of_mem_take hx)
      simp only [impl_Order_isExtension.l0, if_pos (show (i : Int) < (l'.length : Int) by omega), if_pos (show (0 : Int) ≤ (i : Int) by omega), ints_length, ints_rd l' i hi, if_pos (show (0 : Int) ≤ ((l'.getD i 0 : Nat) : Int) by omega), hm.len, if_pos (show ((l'.getD i 0 : Nat) : Int) < (n : Int) by omega), hm.rd,
        andNot_i64 _ _ (hm.row_62 _) h62, or_set _ _ h62 (show l'.getD i 0 ≤ 62 by omega), ← setN_snoc, ← take_next l' i hi, next64 i l'.length hi hz]
      by_cases hd : diff (bel n l (l'.getD i 0)) (setN (l'.take i)) = 0
      · rw [if_pos hd, if_pos (by unfold bel at hd; omega)]
      · rw [if_neg hd, if_neg (by unfold bel at hd; omega)]
    refine Ev.all (fun i k => impl_Order_isExtension.l0 k ((setN (l'.take i) : Nat) : Int) (ints l') (l'.length : Int) (i : Int) (n : Int) (mir n l)) l'.length _ ?_ ?_ ?_
    · intro i r hi hp next
      refine Ev.step (fun k => by rw [st i hi k, if_pos (beq_iff_eq.1 hp)]) next
    · intro i hi hp
      refine Ev.step (fun k => by rw [st i hi k, if_neg (beq_eq_false_iff_ne.1 hp)]) (Ev.now _)
    · refine Ev.step (fun _ => rfl) ?_
      simp only [impl_Order_isExtension.l0, if_neg (show ¬ (l'.length : Int) < (l'.length : Int) by omega)]
      exact Ev.now _
theorem orExtends_ev {n : Nat} {l : List Int} (h : Rel n l) (z : List Int) (hz : z.length ≤ 140737488355328) : Ev (fun k => spec_orExtends.f k (n : Int) l z) (isName n z && isExt n l (z.map Int.toNat)) := by
  have hn := h.le
  have hm := mir_rel h
  unfold spec_orExtends.f
  refine Ev.bind (orNames_ev n hn z hz) ?_
  cases hN : isName n z with
  | false => simp only [Bool.false_eq_true, if_false, Bool.false_and]; exact Ev.now _
  | true =>
    simp only [if_true, Bool.true_and]
    unfold isName at hN
    rw [Bool.and_eq_true] at hN
    obtain ⟨l', rfl, hl⟩ := allIn_nat hN.1
    rw [ints_length] at hz
    rw [ints_nat]
    simp only [ints_length]
    refine Ev.all (fun i k => spec_orExtends.l0 k (ints l') (ints l') (l'.length : Int) (i : Int) (n : Int) l) l'.length _ ?_ ?_ ?_
    · intro i r hi hp next
      have hx := hl _ (getD_mem l' i hi)
      have h62 := setN_62 (l'.take i) n (by omega) fun x hx => hl x (List.mem_of_mem_take hx)
      refine Ev.step (fun _ => rfl) ?_
      simp only [spec_orExtends.l0, if_pos (show (i : Int) < (l'.length : Int) by omega), if_pos (show (0 : Int) ≤ (i : Int) by omega), ints_length, ints_rd l' i hi]
      refine Ev.bind (orBelow_ev h _ _ (by omega)) ?_
      rw [← bel_set l _ hx]
      simp only [if_pos (show (i : Int) ≤ (l'.length : Int) by omega), Int.toNat_natCast, ints_take]
      refine Ev.bind (orSet_ev (l'.take i) n (by omega) (fun x hx => hl x (List.mem_of_mem_take hx)) (by rw [List.length_take]; omega)) ?_
      rw [andNot_i64 (bel n l (l'.getD i 0)) _ (hm.row_62 _) h62]
      simp only [if_pos (show ((diff (bel n l (l'.getD i 0)) (setN (l'.take i)) : Nat) : Int) = 0 by rw [beq_iff_eq.1 hp]; rfl), next64 i l'.length hi hz]
      exact next
    · intro i hi hp
      have hx := hl _ (getD_mem l' i hi)
      have h62 := setN_62 (l'.take i) n (by omega) fun x hx => hl x (List.mem_of_mem_take hx)
      refine Ev.step (fun _ => rfl) ?_
      simp only [spec_orExtends.l0, if_pos (show (i : Int) < (l'.length : Int) by omega), if_pos (show (0 : Int) ≤ (i : Int) by omega), ints_length, ints_rd l' i hi]
      refine Ev.bind (orBelow_ev h _ _ (by omega)) ?_
      rw [← bel_set l _ hx]
      simp only [if_pos (show (i : Int) ≤ (l'.length : Int) by omega), Int.toNat_natCast, ints_take]
      refine Ev.bind (orSet_ev (l'.take i) n (by omega) (fun x hx => hl x (List.mem_of_mem_take hx)) (by rw [List.length_take]; omega)) ?_
      rw [andNot_i64 (bel n l (l'.getD i 0)) _ (hm.row_62 _) h62]
      simp only [if_neg (show ¬ ((diff (bel n l (l'.getD i 0)) (setN (l'.take i)) : Nat) : Int) = 0 by have := beq_eq_false_iff_ne.1 hp; omega)]
      exact Ev.now _
    · refine Ev.step (fun _ => rfl) ?_
      simp only [spec_orExtends.l0, if_neg (show ¬ (l'.length : Int) < (l'.length : Int) by omega)]
      exact Ev.now _
theorem IsExtension_ev (n : Int) (l z : List Int) (hl : l.length ≤ 140737488355328) (hz : z.length ≤ 140737488355328) : Ev (fun k => impl_IsExtension.f k n l z) (isOrd n l && (isName n.toNat z && isExt n.toNat l (z.map Int.toNat)), isOrd n l) := by
  unfold impl_IsExtension.f
  refine Ev.bind (IsOrder_ev n l hl) ?_
  cases ho : isOrd n l with
  | false => simp only [Bool.false_eq_true, if_false, Bool.false_and]; exact Ev.now _
  | true =>
    obtain ⟨m, rfl, h⟩ := isOrd_iff.1 ho
    simp only [if_true, Bool.true_and, Int.toNat_natCast]
    exact Ev.bind (isExtension_ev h.toRel z hz) (Ev.now _)
theorem sIsExtension_ev (n : Int) (l z : List Int) (hl : l.length ≤ 140737488355328) (hz : z.length ≤ 140737488355328) : Ev (fun k => spec_IsExtension.f k n l z) (isOrd n l && (isName n.toNat z && isExt n.toNat l (z.map Int.toNat)), isOrd n l) := by
  unfold spec_IsExtension.f
  refine Ev.bind (orGood_ev n l hl) ?_
  cases ho : isOrd n l with
  | false => simp only [Bool.false_eq_true, if_false, Bool.false_and]; exact Ev.now _
  | true =>
    obtain ⟨m, rfl, h⟩ := isOrd_iff.1 ho
    simp only [if_true, Bool.true_and, Int.toNat_natCast]
    exact Ev.bind (orExtends_ev h.toRel z hz) (Ev.now _)
end Go.Proofs.YtjdkcafpgebjfaaDoor.M
