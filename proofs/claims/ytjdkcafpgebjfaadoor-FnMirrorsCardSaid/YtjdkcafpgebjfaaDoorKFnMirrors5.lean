/- A part of the proof that the law FnMirrors holds at every input. Written by wip/pack.py: the kit's printed words that are used, the functions' walks as wip/gen.py prints them, and hand proofs. -/
import Derived.Test.YtjdkcafpgebjfaaDoorKFnMirrors4
namespace Go.Proofs.YtjdkcafpgebjfaaDoor.P
open Bool renaming true → T, false → F
open List renaming setIfInBounds_toArray → L_, set_cons_zero → M_, set_cons_succ → N_
open Go.RowKit Go.Proofs.YtjdkcafpgebjfaaDoorW.PrintWords Go.Proofs.YtjdkcafpgebjfaaDoorW.PrintLast Go.Proofs.YtjdkcafpgebjfaaDoorW.PrintMore
attribute [local go_sem] max2_int min2_int max_two min_two max_three min_three max_four min_four
set_option linter.unusedVariables false
set_option linter.unusedSimpArgs false
attribute [local go_sem] fldOrder_0 fldOrder_1
mutual
def laws_FnMirrors.j0 : Nat → Bool → Bool → Int → List Int → Int → List Int → Option (Bool)
 | 0, _, _, _, _, _, _ => none
 | k + 1, x9, x45, x654000, x654001, x660000, x660001 => if x45 = true then (some false) else (if x9 = true then ((impl_MirrorOf.f k x660000 x660001).bind fun bt667 => (if bt667.2.2 = true then ((laws_pSameOrder.f k bt667.1 bt667.2.1 x654000 x654001).bind fun t673 => (if t673 = true then ((impl_IsOrder.f k x654000 x654001).bind fun t674 => ((impl_IsOrder.f k x660000 x660001).bind fun t675 => (laws_FnMirrors.j1 k (t674 != t675) x654000 x654001 x660000 x660001))) else (laws_FnMirrors.j1 k true x654000 x654001 x660000 x660001))) else (laws_FnMirrors.j1 k true x654000 x654001 x660000 x660001))) else (some true))
def laws_FnMirrors.j1 : Nat → Bool → Int → List Int → Int → List Int → Option (Bool)
 | 0, _, _, _, _, _ => none
 | k + 1, x67, x654000, x654001, x660000, x660001 => if x67 = true then (some false) else (laws_FnMirrors.l0 k (x654001.length : Int) 0 x654000 x654001 x660000 x660001)
def laws_FnMirrors.l0 : Nat → Int → Int → Int → List Int → Int → List Int → Option (Bool)
 | 0, _, _, _, _, _, _ => none
 | k + 1, x70, x71, x654000, x654001, x660000, x660001 => if x71 < x70 then ((impl_BelowOf.f k x654000 x654001 x71).bind fun bt676 => ((impl_IndifferentTo.f k x654000 x654001 x71).bind fun bt678 => ((impl_IndifferentTo.f k x660000 x660001 x71).bind fun bt680 => (if bt676.2 = true then (if bt678.2 = true then (if bt680.2 = true then (if 0 ≤ x71 then (if x71 < (x660001.length : Int) then (if bt676.1 = (rd x660001 x71) then (if bt678.1 = bt680.1 then ((laws_pIn.f bt678.1 x71).bind fun t683 => (laws_FnMirrors.j3 k x71 bt676.1 bt678.1 x70 x71 t683 x654000 x654001 x660000 x660001)) else (laws_FnMirrors.j3 k x71 bt676.1 bt678.1 x70 x71 true x654000 x654001 x660000 x660001)) else (laws_FnMirrors.j3 k x71 bt676.1 bt678.1 x70 x71 true x654000 x654001 x660000 x660001)) else (none)) else (none)) else (laws_FnMirrors.j3 k x71 bt676.1 bt678.1 x70 x71 true x654000 x654001 x660000 x660001)) else (laws_FnMirrors.j3 k x71 bt676.1 bt678.1 x70 x71 true x654000 x654001 x660000 x660001)) else (laws_FnMirrors.j3 k x71 bt676.1 bt678.1 x70 x71 true x654000 x654001 x660000 x660001))))) else (some true)
def laws_FnMirrors.j3 : Nat → Int → Int → Int → Int → Int → Bool → Int → List Int → Int → List Int → Option (Bool)
 | 0, _, _, _, _, _, _, _, _, _, _ => none
 | k + 1, x12, x13, x15, x70, x71, x120, x654000, x654001, x660000, x660001 => if x120 = true then (some false) else (laws_FnMirrors.l1 k x12 x13 x15 x70 x71 (x654001.length : Int) 0 x654000 x654001 x660000 x660001)
def laws_FnMirrors.l1 : Nat → Int → Int → Int → Int → Int → Int → Int → Int → List Int → Int → List Int → Option (Bool)
 | 0, _, _, _, _, _, _, _, _, _, _, _ => none
 | k + 1, x12, x13, x15, x70, x71, x123, x124, x654000, x654001, x660000, x660001 => if x124 < x123 then ((impl_IsBetter.f k x654000 x654001 x12 x124).bind fun bt684 => (if bt684.2 = true then (if 0 ≤ x12 then (if x12 < (x654001.length : Int) then ((laws_pIn.f (rd x654001 x12) x124).bind fun t687 => (if (bt684.1 != t687) = true then (some false) else (if x12 = x124 then (laws_FnMirrors.l1 k x12 x13 x15 x70 x71 x123 (wrap64 (x124 + 1)) x654000 x654001 x660000 x660001) else ((laws_pIn.f x15 x124).bind fun t688 => (if bt684.1 = true then (if (t688 == true) = true then (some false) else (laws_FnMirrors.l1 k x12 x13 x15 x70 x71 x123 (wrap64 (x124 + 1)) x654000 x654001 x660000 x660001)) else ((laws_pIn.f x13 x124).bind fun t689 => (if (t688 == t689) = true then (some false) else (laws_FnMirrors.l1 k x12 x13 x15 x70 x71 x123 (wrap64 (x124 + 1)) x654000 x654001 x660000 x660001)))))))) else (none)) else (none)) else (some false))) else (laws_FnMirrors.l0 k x70 (wrap64 (x71 + 1)) x654000 x654001 x660000 x660001)
end
def laws_FnMirrors.f (k : Nat) (l0 : List Int) (l1 : List Int) : Option (Bool) := (laws_big.f l0 l1).bind fun t648 => (if t648 = true then (some true) else ((spec_DrawMirrorOf.f k l0).bind fun bt649 => ((impl_MirrorOf.f k bt649.1 bt649.2).bind fun bt654 => ((spec_MirrorOf.f k bt649.1 bt649.2).bind fun bt660 => (if (bt654.2.2 != bt660.2.2) = true then (laws_FnMirrors.j0 k bt660.2.2 true bt649.1 bt649.2 bt654.1 bt654.2.1) else ((laws_pSameOrder.f k bt654.1 bt654.2.1 bt660.1 bt660.2.1).bind fun t666 => (laws_FnMirrors.j0 k bt660.2.2 (!t666) bt649.1 bt649.2 bt654.1 bt654.2.1)))))))
def laws_FnMirrors.T11 : Bool × List (List Nat × List Nat) := (true, [([], []), ([0], [0]), ([1], [1]), ([2], [2]), ([2], [2]), ([3, 4, 2, 2], [2, 3, 4]), ([5, 2], [2, 5]), ([2, 6], [2, 6]), ([7, 5], [7]), ([8], [8]), ([9, 8, 8], [8, 9]), ([8], [8]), ([11, 10, 8], [8, 11]), ([10, 12, 8], [8, 10, 12]), ([8, 13], [8, 13])])
def laws_FnMirrors.B11 : List Nat := [0, 1, 3, 7, 7, 31, 63, 127, 255, 511, 1023, 511, 4095, 8191, 16383]
theorem laws_FnMirrors.tab11 : rtab .any (opsOf Tryd.f5 11) = laws_FnMirrors.T11 := by kernel_rfl
theorem laws_FnMirrors.bits11 : waitsOk laws_FnMirrors.T11.2 laws_FnMirrors.B11 = true := by kernel_rfl
set_option maxHeartbeats 8000000 in
set_option maxRecDepth 100000 in
theorem laws_FnMirrors.calls (k : Nat) (A0 : Option Addr) (c0 : Nat) (l0 : List Int) (A1 : Option Addr) (c1 : Nat) (l1 : List Int) (r : Bool) (w : World) (hr0 : Kd.C (Kd.int .u8) w A0 l0.length l0) (hc0 : l0.length ≤ c0) (hr1 : Kd.C (Kd.int .u8) w A1 l1.length l1) (hc1 : l1.length ≤ c1) (hT : TabOK w) (h : laws_FnMirrors.f k l0 l1 = some r) :
 Calls Tryd.prog 5 #[.slice A0 l0.length c0, .slice A1 l1.length c1] w fun e w' => e = .returned (.bool r) ∧ Below w.heap.size w w' := by
 have hu26 := Tryd.underlying26
 have HT := Aside0.mk hT
 clear hT
 have HR0 := Aside0.mk hr0
 have HC0 := Aside0.mk hc0
 clear hr0 hc0
 have HR1 := Aside0.mk hr1
 have HC1 := Aside0.mk hc1
 clear hr1 hc1
 have HB := Aside0.mk (Below.refl w.heap.size w)
 have H : ((laws_big.f l0 l1).bind fun t648 => (if t648 = true then (some true) else ((spec_DrawMirrorOf.f k l0).bind fun bt649 => ((impl_MirrorOf.f k bt649.1 bt649.2).bind fun bt654 => ((spec_MirrorOf.f k bt649.1 bt649.2).bind fun bt660 => (if (bt654.2.2 != bt660.2.2) = true then (laws_FnMirrors.j0 k bt660.2.2 true bt649.1 bt649.2 bt654.1 bt654.2.1) else ((laws_pSameOrder.f k bt654.1 bt654.2.1 bt660.1 bt660.2.1).bind fun t666 => (laws_FnMirrors.j0 k bt660.2.2 (!t666) bt649.1 bt649.2 bt654.1 bt654.2.1)))))))) = some r := h
 clear h
 replace H := Option.bind_eq_some_iff.mp H
 obtain ⟨t648, A30, H⟩ := H
 replace H : (if t648 = true then (some true) else ((spec_DrawMirrorOf.f k l0).bind fun bt649 => ((impl_MirrorOf.f k bt649.1 bt649.2).bind fun bt654 => ((spec_MirrorOf.f k bt649.1 bt649.2).bind fun bt660 => (if (bt654.2.2 != bt660.2.2) = true then (laws_FnMirrors.j0 k bt660.2.2 true bt649.1 bt649.2 bt654.1 bt654.2.1) else ((laws_pSameOrder.f k bt654.1 bt654.2.1 bt660.1 bt660.2.1).bind fun t666 => (laws_FnMirrors.j0 k bt660.2.2 (!t666) bt649.1 bt649.2 bt654.1 bt654.2.1))))))) = some r := H
 have A3 := Aside0.mk A30
 clear A30
 by_cases c4 : t648 = true
 ·subst c4
  have H1 : (some true) = some r := by rw [if_pos rfl] at H; exact H
  clear H
  have H := H1
  clear H1
  obtain rfl := Option.some.inj H
  go_enter Tryd.func5, Tryd.ntmps5
  go_wp2_with (first | ((with_reducible refine gate_callee (f := 20) rfl ?_); refine goesL_ (some 24) rfl rfl Tryd.func20 (by kernel_rfl) rfl #[.slice A0 l0.length c0, .slice A1 l1.length c1] rfl (by (try simp only [List.map_toArray, List.map_cons, List.map_nil]); first | done | rfl | (simp only [List.length_drop, List.length_take]; rfl)) ?_; (with_reducible refine (laws_big.calls _ _ l0 _ _ l1 true _ ?side1 ?side2 ?side3 ?side4 A3.out).mono ?_); (case side1 => repeat (first | exact HR0.out | (with_reducible refine Kd.C_alloc ?_ _) | (with_reducible refine Kd.C_drewN ?_ _) | (with_reducible refine Kd.C_drew ?_))); (case side2 => exact HC0.out); (case side3 => repeat (first | exact HR1.out | (with_reducible refine Kd.C_alloc ?_ _) | (with_reducible refine Kd.C_drewN ?_ _) | (with_reducible refine Kd.C_drew ?_))); (case side4 => exact HC1.out); rintro e w' ⟨rfl, ⟨nd, rfl⟩⟩; refine ⟨_, rfl, ?_⟩))
  go_ret
  exact ⟨by first | rfl | (simp [errW_none, errW_some] <;> rfl) | (simp [*, errW_none, errW_some] <;> rfl), by repeat (first | (with_reducible first | exact HB.out | apply below_alloc | apply pw_below_drewN | apply below_drew1) | exact HB.out)⟩
 ·replace c4 := Bool.eq_false_iff.mpr c4
  subst c4
  have H1 : ((spec_DrawMirrorOf.f k l0).bind fun bt649 => ((impl_MirrorOf.f k bt649.1 bt649.2).bind fun bt654 => ((spec_MirrorOf.f k bt649.1 bt649.2).bind fun bt660 => (if (bt654.2.2 != bt660.2.2) = true then (laws_FnMirrors.j0 k bt660.2.2 true bt649.1 bt649.2 bt654.1 bt654.2.1) else ((laws_pSameOrder.f k bt654.1 bt654.2.1 bt660.1 bt660.2.1).bind fun t666 => (laws_FnMirrors.j0 k bt660.2.2 (!t666) bt649.1 bt649.2 bt654.1 bt654.2.1)))))) = some r := by rw [if_neg (show ¬ (false = true) by decide)] at H; exact H
  clear H
  have H := H1
  clear H1
  replace H := Option.bind_eq_some_iff.mp H
  obtain ⟨⟨t649, t650⟩, A50, H⟩ := H
  replace H : ((impl_MirrorOf.f k t649 t650).bind fun bt654 => ((spec_MirrorOf.f k t649 t650).bind fun bt660 => (if (bt654.2.2 != bt660.2.2) = true then (laws_FnMirrors.j0 k bt660.2.2 true t649 t650 bt654.1 bt654.2.1) else ((laws_pSameOrder.f k bt654.1 bt654.2.1 bt660.1 bt660.2.1).bind fun t666 => (laws_FnMirrors.j0 k bt660.2.2 (!t666) t649 t650 bt654.1 bt654.2.1))))) = some r := H
  have A5 := Aside0.mk A50
  clear A50
  replace H := Option.bind_eq_some_iff.mp H
  obtain ⟨⟨t654, t655, t658⟩, A60, H⟩ := H
  replace H : ((spec_MirrorOf.f k t649 t650).bind fun bt660 => (if (t658 != bt660.2.2) = true then (laws_FnMirrors.j0 k bt660.2.2 true t649 t650 t654 t655) else ((laws_pSameOrder.f k t654 t655 bt660.1 bt660.2.1).bind fun t666 => (laws_FnMirrors.j0 k bt660.2.2 (!t666) t649 t650 t654 t655)))) = some r := H
  have A6 := Aside0.mk A60
  clear A60
  replace H := Option.bind_eq_some_iff.mp H
  obtain ⟨⟨t660, t661, t664⟩, A70, H⟩ := H
  replace H : (if (t658 != t664) = true then (laws_FnMirrors.j0 k t664 true t649 t650 t654 t655) else ((laws_pSameOrder.f k t654 t655 t660 t661).bind fun t666 => (laws_FnMirrors.j0 k t664 (!t666) t649 t650 t654 t655))) = some r := H
  have A7 := Aside0.mk A70
  clear A70
  have HC8 := Aside0.mk H
  clear H
  go_enter Tryd.func5, Tryd.ntmps5
  go_upto_region 6 with (first | ((with_reducible refine gate_callee (f := 20) rfl ?_); refine goesL_ (some 24) rfl rfl Tryd.func20 (by kernel_rfl) rfl #[.slice A0 l0.length c0, .slice A1 l1.length c1] rfl (by (try simp only [List.map_toArray, List.map_cons, List.map_nil]); first | done | rfl | (simp only [List.length_drop, List.length_take]; rfl)) ?_; (with_reducible refine (laws_big.calls _ _ l0 _ _ l1 false _ ?side1 ?side2 ?side3 ?side4 A3.out).mono ?_); (case side1 => repeat (first | exact HR0.out | (with_reducible refine Kd.C_alloc ?_ _) | (with_reducible refine Kd.C_drewN ?_ _) | (with_reducible refine Kd.C_drew ?_))); (case side2 => exact HC0.out); (case side3 => repeat (first | exact HR1.out | (with_reducible refine Kd.C_alloc ?_ _) | (with_reducible refine Kd.C_drewN ?_ _) | (with_reducible refine Kd.C_drew ?_))); (case side4 => exact HC1.out); rintro e w' ⟨rfl, ⟨nd, rfl⟩⟩; refine ⟨_, rfl, ?_⟩) | ((with_reducible refine gate_callee (f := 28) rfl ?_); refine goesL_ (some 26) rfl rfl Tryd.func28 (by kernel_rfl) rfl #[.slice A0 l0.length c0] rfl (by (try simp only [List.map_toArray, List.map_cons, List.map_nil]); first | done | rfl | (simp only [List.length_drop, List.length_take]; rfl)) ?_; (with_reducible refine (spec_DrawMirrorOf.calls k _ _ l0 t649 t650 _ ?side1 ?side2 A5.out).mono ?_); (case side1 => repeat (first | exact HR0.out | (with_reducible refine Kd.C_alloc ?_ _) | (with_reducible refine Kd.C_drewN ?_ _) | (with_reducible refine Kd.C_drew ?_))); (case side2 => exact HC0.out); rintro e w9 ⟨v651, rfl, ho0, hb⟩; refine ⟨_, rfl, ?_⟩; have n0_ := Aside0.mk (Kd.R_lower ho0 (below_size (by repeat (first | (with_reducible first | exact HB.out | apply below_alloc | apply pw_below_drewN | apply below_drew1) | exact HB.out)))); have n1_ := Aside0.mk (below_step (by repeat (first | (with_reducible first | exact HB.out | apply below_alloc | apply pw_below_drewN | apply below_drew1) | exact HB.out)) hb); clear HB; have HO652 := n0_; have HB := n1_; clear n0_ n1_; (try clear hb); (try clear hb2); (try clear hk); (try clear hi); (try clear ho0)) | ((with_reducible refine gate_dst (N := 5) rfl ?_); refine box_event ?hg (N := 5) ?hd (cs := #[.int .i64 0, .slice none 0 0]) (t := 26) ?hr ?_; (case hd => rfl); (case hg => rfl); (case hr => first | (go_simp; done) | (go_simp; rfl)); intro gb653 hg w10 hbox hb; have n0_ := Aside0.mk (Kd.R_below (by (with_reducible repeat (first | apply Kd.R_alloc | apply Kd.R_drewN | apply Kd.R_drew)); exact HO652.out) hb); have n1_ := Aside0.mk (below_step (by repeat (first | (with_reducible first | exact HB.out | apply below_alloc | apply pw_below_drewN | apply below_drew1) | exact HB.out)) hb); have n2_ := Aside0.mk (hbox); have n3_ := Aside0.mk ((by rw [hg]; exact (below_size (by repeat (first | (with_reducible first | exact HB.out | apply below_alloc | apply pw_below_drewN | apply below_drew1) | exact HB.out))) : w.heap.size ≤ gb653)); have n4_ := Aside0.mk ((by rw [hg]; exact (below_size (by repeat (first | (with_reducible first | exact HB.out | apply below_alloc | apply pw_below_drewN | apply below_drew1) | exact HB.out))) : w.heap.size ≤ gb653)); clear HO652; clear HB; have HO652 := n0_; have HB := n1_; have BK653 := n2_; have GW653 := n3_; have GE653 := n4_; clear n0_ n1_ n2_ n3_ n4_; clear hb hbox hg; have hcz11_0 : w10.cell? ⟨gb653, 0, none⟩ = some (.int .i64 0) := (blk_cell BK653.out 0).trans rfl; have hcz11_1 : w10.cell? ⟨gb653, 1, none⟩ = some (.slice none 0 0) := (blk_cell BK653.out 1).trans rfl; have hfz11_0 := blk_frozen BK653.out 0; have hfz11_1 := blk_frozen BK653.out 1; obtain ⟨Ao12, co12, eo12⟩ := Kd.R_slice HO652.out; subst eo12) | ((with_reducible refine gate_callee (f := 29) rfl ?_); refine goesL_ (some 29) rfl rfl Tryd.func29 (by kernel_rfl) rfl #[.agg #[.int .i64 t649, .slice Ao12 t650.length co12]] rfl (by (try simp only [List.map_toArray, List.map_cons, List.map_nil]); first | done | rfl | (simp only [List.length_drop, List.length_take]; rfl)) ?_; (with_reducible refine (impl_MirrorOf.calls k t649 _ _ t650 t654 t655 t658 _ ?side1 ?side2 A6.out).mono ?_); (case side1 => refine (Kd.R_reads' (e := 3) (base := w.heap.size) (ok := fun k_ => True) (n := t650.length) (c := co12) ?_).2.2; exact (by (with_reducible repeat (first | apply Kd.R_alloc | apply Kd.R_drewN | apply Kd.R_drew)); exact (Kd.R_mono (Kd.R_far (p := ⟨gb653, 1, none⟩) (Kd.R_far (p := ⟨gb653, 0, none⟩) (Kd.R_types HO652.out BK653.out (by decide)) (fun _ hk => hk.2) (.int .i64 t649)) (fun _ hk => hk.2) (.slice Ao12 t650.length co12)) (fun _ h_ => h_.1)))); (case side2 => exact (Kd.R_reads' HO652.out).2.1); rintro e w13 ⟨v656, rfl, ho0, hb⟩; refine ⟨_, rfl, ?_⟩; have n0_ := Aside0.mk (Kd.R_elder' (by (with_reducible repeat (first | apply Kd.R_alloc | apply Kd.R_drewN | apply Kd.R_drew)); exact (Kd.R_mono (Kd.R_far (p := ⟨gb653, 1, none⟩) (Kd.R_far (p := ⟨gb653, 0, none⟩) (Kd.R_types HO652.out BK653.out (by decide)) (fun _ hk => hk.2) (.int .i64 t649)) (fun _ hk => hk.2) (.slice Ao12 t650.length co12)) (fun _ h_ => h_.1))) (Kd.R_base ho0) hb); have n1_ := Aside0.mk (Kd.R_lower (Kd.R_new' ho0 (Kd.R_lt (by (with_reducible repeat (first | apply Kd.R_alloc | apply Kd.R_drewN | apply Kd.R_drew)); exact (Kd.R_mono (Kd.R_far (p := ⟨gb653, 1, none⟩) (Kd.R_far (p := ⟨gb653, 0, none⟩) (Kd.R_types HO652.out BK653.out (by decide)) (fun _ hk => hk.2) (.int .i64 t649)) (fun _ hk => hk.2) (.slice Ao12 t650.length co12)) (fun _ h_ => h_.1))))) (below_size (by repeat (first | (with_reducible first | exact HB.out | apply below_alloc | apply pw_below_drewN | apply below_drew1 | refine below_set ?_ GE653.out) | exact HB.out)))); have n2_ := Aside0.mk (blk_below (g := gb653) (o := .cells #[.int .i64 t649, .slice Ao12 t650.length co12] 26 (0, 0)) (by (with_reducible repeat (first | refine blk_drewN ?_ _ | refine blk_drew ?_ | refine blk_alloc ?_ _)); refine blk_put (cs := #[.int .i64 t649, .slice none 0 0]) ?_ 1 _ rfl; (with_reducible repeat (first | refine blk_drewN ?_ _ | refine blk_drew ?_ | refine blk_alloc ?_ _)); refine blk_put (cs := #[.int .i64 0, .slice none 0 0]) ?_ 0 _ rfl; (with_reducible repeat (first | refine blk_drewN ?_ _ | refine blk_drew ?_ | refine blk_alloc ?_ _)); exact BK653.out) hb); have n3_ := Aside0.mk (below_step (by repeat (first | (with_reducible first | exact HB.out | apply below_alloc | apply pw_below_drewN | apply below_drew1 | refine below_set ?_ GE653.out) | exact HB.out)) hb); clear HO652; clear BK653; clear HB; have HO652 := n0_; have HO657 := n1_; have BK653 := n2_; have HB := n3_; clear n0_ n1_ n2_ n3_; (try clear hb); (try clear hb2); (try clear hk); (try clear hi); (try clear ho0)) | ((with_reducible refine gate_dst (N := 6) rfl ?_); refine box_event ?hg (N := 6) ?hd (cs := #[.int .i64 0, .slice none 0 0]) (t := 26) ?hr ?_; (case hd => rfl); (case hg => rfl); (case hr => first | (go_simp; done) | (go_simp; rfl)); intro gb659 hg w14 hbox hb; have n0_ := Aside0.mk (Kd.R_below (by (with_reducible repeat (first | apply Kd.R_alloc | apply Kd.R_drewN | apply Kd.R_drew)); exact HO652.out) hb); have n1_ := Aside0.mk (Kd.R_below (by (with_reducible repeat (first | apply Kd.R_alloc | apply Kd.R_drewN | apply Kd.R_drew)); exact HO657.out) hb); have n2_ := Aside0.mk (blk_below (g := gb653) (o := .cells #[.int .i64 t649, .slice Ao12 t650.length co12] 26 (0, 0)) (by (with_reducible repeat (first | refine blk_drewN ?_ _ | refine blk_drew ?_ | refine blk_alloc ?_ _)); exact BK653.out) hb); have n3_ := Aside0.mk (below_step (by repeat (first | (with_reducible first | exact HB.out | apply below_alloc | apply pw_below_drewN | apply below_drew1 | refine below_set ?_ GE653.out) | exact HB.out)) hb); have n4_ := Aside0.mk (hbox); have n5_ := Aside0.mk ((by rw [hg]; exact (below_size (by repeat (first | (with_reducible first | exact HB.out | apply below_alloc | apply pw_below_drewN | apply below_drew1 | refine below_set ?_ GE653.out) | exact HB.out))) : w.heap.size ≤ gb659)); have n6_ := Aside0.mk ((by rw [hg]; exact (below_size (by repeat (first | (with_reducible first | exact HB.out | apply below_alloc | apply pw_below_drewN | apply below_drew1 | refine below_set ?_ GE653.out) | exact HB.out))) : w.heap.size ≤ gb659)); have n7_ := Aside0.mk ((by rw [hg]; exact Nat.ne_of_lt (blk_lt (g := gb653) (o := .cells #[.int .i64 t649, .slice Ao12 t650.length co12] 26 (0, 0)) (by (with_reducible repeat (first | refine blk_drewN ?_ _ | refine blk_drew ?_ | refine blk_alloc ?_ _)); exact BK653.out)) : gb653 ≠ gb659)); have n8_ := Aside0.mk ((by rw [hg]; exact Nat.ne_of_gt (blk_lt (g := gb653) (o := .cells #[.int .i64 t649, .slice Ao12 t650.length co12] 26 (0, 0)) (by (with_reducible repeat (first | refine blk_drewN ?_ _ | refine blk_drew ?_ | refine blk_alloc ?_ _)); exact BK653.out)) : gb659 ≠ gb653)); clear HO652; clear HO657; clear BK653; clear HB; have HO652 := n0_; have HO657 := n1_; have BK653 := n2_; have HB := n3_; have BK659 := n4_; have GW659 := n5_; have GE659 := n6_; have NB653_659 := n7_; have NB659_653 := n8_; clear n0_ n1_ n2_ n3_ n4_ n5_ n6_ n7_ n8_; clear hb hbox hg; have hnb15 := NB659_653.out; have hnc15 := NB653_659.out; have hcz16_0 : w14.cell? ⟨gb659, 0, none⟩ = some (.int .i64 0) := (blk_cell BK659.out 0).trans rfl; have hcz16_1 : w14.cell? ⟨gb659, 1, none⟩ = some (.slice none 0 0) := (blk_cell BK659.out 1).trans rfl; have hfz16_0 := blk_frozen BK659.out 0; have hfz16_1 := blk_frozen BK659.out 1; obtain ⟨Ao17, co17, eo17⟩ := Kd.R_slice HO657.out; subst eo17; have hcz18_0 : w14.cell? ⟨gb653, 0, none⟩ = some (.int .i64 t649) := (blk_cell BK653.out 0).trans rfl; have hcz18_1 : w14.cell? ⟨gb653, 1, none⟩ = some (.slice Ao12 t650.length co12) := (blk_cell BK653.out 1).trans rfl; have hfz18_0 := blk_frozen BK653.out 0; have hfz18_1 := blk_frozen BK653.out 1) | ((with_reducible refine gate_callee (f := 30) rfl ?_); refine goesL_ (some 34) rfl rfl Tryd.func30 (by kernel_rfl) rfl #[.agg #[.int .i64 t649, .slice Ao12 t650.length co12]] rfl (by (try simp only [List.map_toArray, List.map_cons, List.map_nil]); first | done | rfl | (simp only [List.length_drop, List.length_take]; rfl)) ?_; (with_reducible refine (spec_MirrorOf.calls k t649 _ _ t650 t660 t661 t664 _ ?side1 ?side2 A7.out).mono ?_); (case side1 => refine (Kd.R_reads' (e := 3) (base := w.heap.size) (ok := fun k_ => (True ∧ some k_ ≠ (.slice Ao17 t655.length co17 : Value).ownBlock)) (n := t650.length) (c := co12) ?_).2.2; exact (by (with_reducible repeat (first | apply Kd.R_alloc | apply Kd.R_drewN | apply Kd.R_drew)); exact (Kd.R_mono (Kd.R_far (p := ⟨gb659, 1, none⟩) (Kd.R_far (p := ⟨gb659, 0, none⟩) (Kd.R_types HO652.out BK659.out (by decide)) (fun _ hk => hk.2) (.int .i64 t654)) (fun _ hk => hk.2) (.slice Ao17 t655.length co17)) (fun _ h_ => h_.1)))); (case side2 => exact (Kd.R_reads' HO652.out).2.1); rintro e w19 ⟨v662, rfl, ho0, hb⟩; refine ⟨_, rfl, ?_⟩; have n0_ := Aside0.mk (Kd.R_elder' (by (with_reducible repeat (first | apply Kd.R_alloc | apply Kd.R_drewN | apply Kd.R_drew)); exact (Kd.R_mono (Kd.R_far (p := ⟨gb659, 1, none⟩) (Kd.R_far (p := ⟨gb659, 0, none⟩) (Kd.R_types HO652.out BK659.out (by decide)) (fun _ hk => hk.2) (.int .i64 t654)) (fun _ hk => hk.2) (.slice Ao17 t655.length co17)) (fun _ h_ => h_.1))) (Kd.R_base ho0) hb); have n1_ := Aside0.mk (Kd.R_elder' (by (with_reducible repeat (first | apply Kd.R_alloc | apply Kd.R_drewN | apply Kd.R_drew)); exact (Kd.R_mono (Kd.R_far (p := ⟨gb659, 1, none⟩) (Kd.R_far (p := ⟨gb659, 0, none⟩) (Kd.R_types HO657.out BK659.out (by decide)) (fun _ hk => hk.2) (.int .i64 t654)) (fun _ hk => hk.2) (.slice Ao17 t655.length co17)) (fun _ h_ => h_.1))) (Kd.R_base ho0) hb); have n2_ := Aside0.mk (Kd.R_lower (Kd.R_new' (Kd.R_new' ho0 (Kd.R_lt (by (with_reducible repeat (first | apply Kd.R_alloc | apply Kd.R_drewN | apply Kd.R_drew)); exact (Kd.R_mono (Kd.R_far (p := ⟨gb659, 1, none⟩) (Kd.R_far (p := ⟨gb659, 0, none⟩) (Kd.R_types HO652.out BK659.out (by decide)) (fun _ hk => hk.2) (.int .i64 t654)) (fun _ hk => hk.2) (.slice Ao17 t655.length co17)) (fun _ h_ => h_.1))))) (Kd.R_lt (by (with_reducible repeat (first | apply Kd.R_alloc | apply Kd.R_drewN | apply Kd.R_drew)); exact (Kd.R_mono (Kd.R_far (p := ⟨gb659, 1, none⟩) (Kd.R_far (p := ⟨gb659, 0, none⟩) (Kd.R_types HO657.out BK659.out (by decide)) (fun _ hk => hk.2) (.int .i64 t654)) (fun _ hk => hk.2) (.slice Ao17 t655.length co17)) (fun _ h_ => h_.1))))) (below_size (by repeat (first | (with_reducible first | exact HB.out | apply below_alloc | apply pw_below_drewN | apply below_drew1 | refine below_set ?_ GE653.out | refine below_set ?_ GE659.out) | exact HB.out)))); have n3_ := Aside0.mk (blk_below (g := gb653) (o := .cells #[.int .i64 t649, .slice Ao12 t650.length co12] 26 (0, 0)) (by (with_reducible repeat (first | refine blk_drewN ?_ _ | refine blk_drew ?_ | refine blk_alloc ?_ _)); refine blk_far ?_ NB653_659.out _; (with_reducible repeat (first | refine blk_drewN ?_ _ | refine blk_drew ?_ | refine blk_alloc ?_ _)); refine blk_far ?_ NB653_659.out _; (with_reducible repeat (first | refine blk_drewN ?_ _ | refine blk_drew ?_ | refine blk_alloc ?_ _)); exact BK653.out) hb); have n4_ := Aside0.mk (blk_below (g := gb659) (o := .cells #[.int .i64 t654, .slice Ao17 t655.length co17] 26 (0, 0)) (by (with_reducible repeat (first | refine blk_drewN ?_ _ | refine blk_drew ?_ | refine blk_alloc ?_ _)); refine blk_put (cs := #[.int .i64 t654, .slice none 0 0]) ?_ 1 _ rfl; (with_reducible repeat (first | refine blk_drewN ?_ _ | refine blk_drew ?_ | refine blk_alloc ?_ _)); refine blk_put (cs := #[.int .i64 0, .slice none 0 0]) ?_ 0 _ rfl; (with_reducible repeat (first | refine blk_drewN ?_ _ | refine blk_drew ?_ | refine blk_alloc ?_ _)); exact BK659.out) hb); have n5_ := Aside0.mk (below_step (by repeat (first | (with_reducible first | exact HB.out | apply below_alloc | apply pw_below_drewN | apply below_drew1 | refine below_set ?_ GE653.out | refine below_set ?_ GE659.out) | exact HB.out)) hb); clear HO652; clear HO657; clear BK653; clear BK659; clear HB; have HO652 := n0_; have HO657 := n1_; have HO663 := n2_; have BK653 := n3_; have BK659 := n4_; have HB := n5_; clear n0_ n1_ n2_ n3_ n4_ n5_; (try clear hb); (try clear hb2); (try clear hk); (try clear hi); (try clear ho0)) | ((with_reducible refine gate_dst (N := 8) rfl ?_); refine box_event ?hg (N := 8) ?hd (cs := #[.int .i64 0, .slice none 0 0]) (t := 26) ?hr ?_; (case hd => rfl); (case hg => rfl); (case hr => first | (go_simp; done) | (go_simp; rfl)); intro gb665 hg w20 hbox hb; have n0_ := Aside0.mk (Kd.R_below (by (with_reducible repeat (first | apply Kd.R_alloc | apply Kd.R_drewN | apply Kd.R_drew)); exact HO652.out) hb); have n1_ := Aside0.mk (Kd.R_below (by (with_reducible repeat (first | apply Kd.R_alloc | apply Kd.R_drewN | apply Kd.R_drew)); exact HO657.out) hb); have n2_ := Aside0.mk (Kd.R_below (by (with_reducible repeat (first | apply Kd.R_alloc | apply Kd.R_drewN | apply Kd.R_drew)); exact HO663.out) hb); have n3_ := Aside0.mk (blk_below (g := gb653) (o := .cells #[.int .i64 t649, .slice Ao12 t650.length co12] 26 (0, 0)) (by (with_reducible repeat (first | refine blk_drewN ?_ _ | refine blk_drew ?_ | refine blk_alloc ?_ _)); exact BK653.out) hb); have n4_ := Aside0.mk (blk_below (g := gb659) (o := .cells #[.int .i64 t654, .slice Ao17 t655.length co17] 26 (0, 0)) (by (with_reducible repeat (first | refine blk_drewN ?_ _ | refine blk_drew ?_ | refine blk_alloc ?_ _)); exact BK659.out) hb); have n5_ := Aside0.mk (below_step (by repeat (first | (with_reducible first | exact HB.out | apply below_alloc | apply pw_below_drewN | apply below_drew1 | refine below_set ?_ GE653.out | refine below_set ?_ GE659.out) | exact HB.out)) hb); have n6_ := Aside0.mk (hbox); have n7_ := Aside0.mk ((by rw [hg]; exact (below_size (by repeat (first | (with_reducible first | exact HB.out | apply below_alloc | apply pw_below_drewN | apply below_drew1 | refine below_set ?_ GE653.out | refine below_set ?_ GE659.out) | exact HB.out))) : w.heap.size ≤ gb665)); have n8_ := Aside0.mk ((by rw [hg]; exact (below_size (by repeat (first | (with_reducible first | exact HB.out | apply below_alloc | apply pw_below_drewN | apply below_drew1 | refine below_set ?_ GE653.out | refine below_set ?_ GE659.out) | exact HB.out))) : w.heap.size ≤ gb665)); have n9_ := Aside0.mk ((by rw [hg]; exact Nat.ne_of_lt (blk_lt (g := gb653) (o := .cells #[.int .i64 t649, .slice Ao12 t650.length co12] 26 (0, 0)) (by (with_reducible repeat (first | refine blk_drewN ?_ _ | refine blk_drew ?_ | refine blk_alloc ?_ _)); exact BK653.out)) : gb653 ≠ gb665)); have n10_ := Aside0.mk ((by rw [hg]; exact Nat.ne_of_gt (blk_lt (g := gb653) (o := .cells #[.int .i64 t649, .slice Ao12 t650.length co12] 26 (0, 0)) (by (with_reducible repeat (first | refine blk_drewN ?_ _ | refine blk_drew ?_ | refine blk_alloc ?_ _)); exact BK653.out)) : gb665 ≠ gb653)); have n11_ := Aside0.mk ((by rw [hg]; exact Nat.ne_of_lt (blk_lt (g := gb659) (o := .cells #[.int .i64 t654, .slice Ao17 t655.length co17] 26 (0, 0)) (by (with_reducible repeat (first | refine blk_drewN ?_ _ | refine blk_drew ?_ | refine blk_alloc ?_ _)); exact BK659.out)) : gb659 ≠ gb665)); have n12_ := Aside0.mk ((by rw [hg]; exact Nat.ne_of_gt (blk_lt (g := gb659) (o := .cells #[.int .i64 t654, .slice Ao17 t655.length co17] 26 (0, 0)) (by (with_reducible repeat (first | refine blk_drewN ?_ _ | refine blk_drew ?_ | refine blk_alloc ?_ _)); exact BK659.out)) : gb665 ≠ gb659)); clear HO652; clear HO657; clear HO663; clear BK653; clear BK659; clear HB; have HO652 := n0_; have HO657 := n1_; have HO663 := n2_; have BK653 := n3_; have BK659 := n4_; have HB := n5_; have BK665 := n6_; have GW665 := n7_; have GE665 := n8_; have NB653_665 := n9_; have NB665_653 := n10_; have NB659_665 := n11_; have NB665_659 := n12_; clear n0_ n1_ n2_ n3_ n4_ n5_ n6_ n7_ n8_ n9_ n10_ n11_ n12_; clear hb hbox hg; have hnb21 := NB665_653.out; have hnc21 := NB653_665.out; have hnb22 := NB665_659.out; have hnc22 := NB659_665.out; have hcz23_0 : w20.cell? ⟨gb665, 0, none⟩ = some (.int .i64 0) := (blk_cell BK665.out 0).trans rfl; have hcz23_1 : w20.cell? ⟨gb665, 1, none⟩ = some (.slice none 0 0) := (blk_cell BK665.out 1).trans rfl; have hfz23_0 := blk_frozen BK665.out 0; have hfz23_1 := blk_frozen BK665.out 1; obtain ⟨Ao24, co24, eo24⟩ := Kd.R_slice HO663.out; subst eo24))
  (try simp only [Act.put, L_,M_,N_])
  go_cut [45] (fun v45 wc => ∃ (kq : Nat) (x45_7 : Bool), v45 = .bool x45_7 ∧ Aside0 (laws_FnMirrors.j0 kq t664 x45_7 t649 t650 t654 t655 = some r) ∧ Aside0 (kq ≤ k) ∧ Aside0 (Kd.R (Kd.int .i64) 3 wc w.heap.size (fun k_ => some k_ ≠ ((.slice Ao17 t655.length co17) : Value).ownBlock ∧ some k_ ≠ ((.slice Ao24 t661.length co24) : Value).ownBlock) (.slice Ao12 t650.length co12) t650) ∧ Aside0 (Kd.R (Kd.int .i64) 3 wc w.heap.size (fun k_ => some k_ ≠ ((.slice Ao12 t650.length co12) : Value).ownBlock ∧ some k_ ≠ ((.slice Ao24 t661.length co24) : Value).ownBlock) (.slice Ao17 t655.length co17) t655) ∧ Aside0 (Kd.R (Kd.int .i64) 3 wc w.heap.size (fun k_ => some k_ ≠ ((.slice Ao12 t650.length co12) : Value).ownBlock ∧ some k_ ≠ ((.slice Ao17 t655.length co17) : Value).ownBlock) (.slice Ao24 t661.length co24) t661) ∧ Aside0 (wc.heap[gb653]? = some (.cells #[.int .i64 t649, (.slice Ao12 t650.length co12)] 26 (0, 0))) ∧ Aside0 (wc.heap[gb659]? = some (.cells #[.int .i64 t654, (.slice Ao17 t655.length co17)] 26 (0, 0))) ∧ Aside0 (wc.heap[gb665]? = some (.cells #[.int .i64 t660, (.slice Ao24 t661.length co24)] 26 (0, 0))) ∧ Aside0 (Below w.heap.size w wc))
  case first =>
   have H := HC8.out
   clear HC8
   by_cases c25 : (t658 != t664) = true
   ·rw [if_pos c25] at H
    have c25b0 : (t658 != t664) = true := c25
    (try (have c25b1 : decide (t658 = t664) = false := by simpa using c25))
    (try (have c25b2 : (t658 == t664) = false := by simpa using c25))
    (try (have c25b3 : ¬ (t658 = t664) := by simpa using c25))
    clear c25
    (first | rw [c25b0] | (simp only [i64_w, i32_w]; rw [c25b0]) | skip)
    have H' := Aside0.mk H
    clear H
    go_wp2
    go_meet
    case rel => exact ⟨_, (true), (by first | rfl | (simp; done) | (simp [*]; done)), H', ⟨by first | omega | exact Nat.le_refl _⟩, ⟨by (with_reducible repeat (first | apply Kd.R_alloc | apply Kd.R_drewN | apply Kd.R_drew)); exact Kd.R_mono (Kd.R_far (p := ⟨gb665, 1, none⟩) (Kd.R_far (p := ⟨gb665, 0, none⟩) (Kd.R_types HO652.out BK665.out (by decide)) (fun _ hk => hk.2) (.int .i64 t660)) (fun _ hk => hk.2) (.slice Ao24 t661.length co24)) (fun _ hk => ⟨hk.1.1.2, hk.1.2⟩)⟩, ⟨by (with_reducible repeat (first | apply Kd.R_alloc | apply Kd.R_drewN | apply Kd.R_drew)); exact Kd.R_mono (Kd.R_far (p := ⟨gb665, 1, none⟩) (Kd.R_far (p := ⟨gb665, 0, none⟩) (Kd.R_types HO657.out BK665.out (by decide)) (fun _ hk => hk.2) (.int .i64 t660)) (fun _ hk => hk.2) (.slice Ao24 t661.length co24)) (fun _ hk => ⟨hk.1.1.2, hk.1.2⟩)⟩, ⟨by (with_reducible repeat (first | apply Kd.R_alloc | apply Kd.R_drewN | apply Kd.R_drew)); exact Kd.R_mono (Kd.R_far (p := ⟨gb665, 1, none⟩) (Kd.R_far (p := ⟨gb665, 0, none⟩) (Kd.R_types HO663.out BK665.out (by decide)) (fun _ hk => hk.2) (.int .i64 t660)) (fun _ hk => hk.2) (.slice Ao24 t661.length co24)) (fun _ hk => ⟨hk.1.1.2, hk.1.2⟩)⟩, ⟨by (with_reducible repeat (first | refine blk_drewN ?_ _ | refine blk_drew ?_ | refine blk_alloc ?_ _)); refine blk_far ?_ NB653_665.out _; (with_reducible repeat (first | refine blk_drewN ?_ _ | refine blk_drew ?_ | refine blk_alloc ?_ _)); refine blk_far ?_ NB653_665.out _; (with_reducible repeat (first | refine blk_drewN ?_ _ | refine blk_drew ?_ | refine blk_alloc ?_ _)); exact BK653.out⟩, ⟨by (with_reducible repeat (first | refine blk_drewN ?_ _ | refine blk_drew ?_ | refine blk_alloc ?_ _)); refine blk_far ?_ NB659_665.out _; (with_reducible repeat (first | refine blk_drewN ?_ _ | refine blk_drew ?_ | refine blk_alloc ?_ _)); refine blk_far ?_ NB659_665.out _; (with_reducible repeat (first | refine blk_drewN ?_ _ | refine blk_drew ?_ | refine blk_alloc ?_ _)); exact BK659.out⟩, ⟨by (with_reducible repeat (first | refine blk_drewN ?_ _ | refine blk_drew ?_ | refine blk_alloc ?_ _)); refine blk_put (cs := #[.int .i64 t660, .slice none 0 0]) ?_ 1 _ rfl; (with_reducible repeat (first | refine blk_drewN ?_ _ | refine blk_drew ?_ | refine blk_alloc ?_ _)); refine blk_put (cs := #[.int .i64 0, .slice none 0 0]) ?_ 0 _ rfl; (with_reducible repeat (first | refine blk_drewN ?_ _ | refine blk_drew ?_ | refine blk_alloc ?_ _)); exact BK665.out⟩, ⟨by repeat (first | (with_reducible first | exact HB.out | apply below_alloc | apply pw_below_drewN | apply below_drew1 | refine below_set ?_ GE653.out | refine below_set ?_ GE659.out | refine below_set ?_ GE665.out) | exact HB.out)⟩⟩
   ·rw [if_neg c25] at H
    have c25b0 : (t658 != t664) = false := by simpa using c25
    (try (have c25b1 : decide (t658 = t664) = true := by simpa using c25))
    (try (have c25b2 : (t658 == t664) = true := by simpa using c25))
    clear c25
    (first | rw [c25b0] | (simp only [i64_w, i32_w]; rw [c25b0]) | skip)
    replace H := Option.bind_eq_some_iff.mp H
    obtain ⟨t666, A260, H⟩ := H
    replace H : (laws_FnMirrors.j0 k t664 (!t666) t649 t650 t654 t655) = some r := H
    have A26 := Aside0.mk A260
    clear A260
    have H' := Aside0.mk H
    clear H
    have hnb27 := NB659_653.out
    have hnc27 := NB653_659.out
    have hnb28 := NB659_665.out
    have hnc28 := NB665_659.out
    have hcz29_0 : w20.cell? ⟨gb659, 0, none⟩ = some (.int .i64 t654) := (blk_cell BK659.out 0).trans rfl
    have hcz29_1 : w20.cell? ⟨gb659, 1, none⟩ = some (.slice Ao17 t655.length co17) := (blk_cell BK659.out 1).trans rfl
    have hfz29_0 := blk_frozen BK659.out 0
    have hfz29_1 := blk_frozen BK659.out 1
    have hnb30 := NB665_653.out
    have hnc30 := NB653_665.out
    have hcz31_0 : w20.cell? ⟨gb665, 0, none⟩ = some (.int .i64 0) := (blk_cell BK665.out 0).trans rfl
    have hcz31_1 : w20.cell? ⟨gb665, 1, none⟩ = some (.slice none 0 0) := (blk_cell BK665.out 1).trans rfl
    have hfz31_0 := blk_frozen BK665.out 0
    have hfz31_1 := blk_frozen BK665.out 1
    go_wp2_with (first | (go_at_call 31; (with_reducible refine (laws_pSameOrder.calls k t654 _ _ t655 t660 _ _ t661 t666 _ ?side1 ?side2 ?side3 ?side4 A26.out).mono ?_); (case side1 => refine (Kd.R_reads' (e := 3) (base := w.heap.size) (ok := fun k_ => ((True ∧ some k_ ≠ (.slice Ao12 t650.length co12 : Value).ownBlock) ∧ some k_ ≠ (.slice Ao24 t661.length co24 : Value).ownBlock)) (n := t655.length) (c := co17) ?_).2.2; exact (by (with_reducible repeat (first | apply Kd.R_alloc | apply Kd.R_drewN | apply Kd.R_drew)); exact (Kd.R_mono (Kd.R_far (p := ⟨gb665, 1, none⟩) (Kd.R_far (p := ⟨gb665, 0, none⟩) (Kd.R_types HO657.out BK665.out (by decide)) (fun _ hk => hk.2) (.int .i64 t660)) (fun _ hk => hk.2) (.slice Ao24 t661.length co24)) (fun _ h_ => h_.1)))); (case side2 => exact (Kd.R_reads' HO657.out).2.1); (case side3 => refine (Kd.R_reads' (e := 3) (base := w.heap.size) (ok := fun k_ => ((True ∧ some k_ ≠ (.slice Ao12 t650.length co12 : Value).ownBlock) ∧ some k_ ≠ (.slice Ao17 t655.length co17 : Value).ownBlock)) (n := t661.length) (c := co24) ?_).2.2; exact (by (with_reducible repeat (first | apply Kd.R_alloc | apply Kd.R_drewN | apply Kd.R_drew)); exact (Kd.R_mono (Kd.R_far (p := ⟨gb665, 1, none⟩) (Kd.R_far (p := ⟨gb665, 0, none⟩) (Kd.R_types HO663.out BK665.out (by decide)) (fun _ hk => hk.2) (.int .i64 t660)) (fun _ hk => hk.2) (.slice Ao24 t661.length co24)) (fun _ h_ => h_.1)))); (case side4 => exact (Kd.R_reads' HO663.out).2.1); rintro e w32 ⟨rfl, hb⟩; have n0_ := Aside0.mk (Kd.R_below (by (with_reducible repeat (first | apply Kd.R_alloc | apply Kd.R_drewN | apply Kd.R_drew)); exact (Kd.R_mono (Kd.R_far (p := ⟨gb665, 1, none⟩) (Kd.R_far (p := ⟨gb665, 0, none⟩) (Kd.R_types HO652.out BK665.out (by decide)) (fun _ hk => hk.2) (.int .i64 t660)) (fun _ hk => hk.2) (.slice Ao24 t661.length co24)) (fun _ h_ => h_.1))) hb); have n1_ := Aside0.mk (Kd.R_below (by (with_reducible repeat (first | apply Kd.R_alloc | apply Kd.R_drewN | apply Kd.R_drew)); exact (Kd.R_mono (Kd.R_far (p := ⟨gb665, 1, none⟩) (Kd.R_far (p := ⟨gb665, 0, none⟩) (Kd.R_types HO657.out BK665.out (by decide)) (fun _ hk => hk.2) (.int .i64 t660)) (fun _ hk => hk.2) (.slice Ao24 t661.length co24)) (fun _ h_ => h_.1))) hb); have n2_ := Aside0.mk (Kd.R_below (by (with_reducible repeat (first | apply Kd.R_alloc | apply Kd.R_drewN | apply Kd.R_drew)); exact (Kd.R_mono (Kd.R_far (p := ⟨gb665, 1, none⟩) (Kd.R_far (p := ⟨gb665, 0, none⟩) (Kd.R_types HO663.out BK665.out (by decide)) (fun _ hk => hk.2) (.int .i64 t660)) (fun _ hk => hk.2) (.slice Ao24 t661.length co24)) (fun _ h_ => h_.1))) hb); have n3_ := Aside0.mk (blk_below (g := gb653) (o := .cells #[.int .i64 t649, .slice Ao12 t650.length co12] 26 (0, 0)) (by (with_reducible repeat (first | refine blk_drewN ?_ _ | refine blk_drew ?_ | refine blk_alloc ?_ _)); refine blk_far ?_ NB653_665.out _; (with_reducible repeat (first | refine blk_drewN ?_ _ | refine blk_drew ?_ | refine blk_alloc ?_ _)); refine blk_far ?_ NB653_665.out _; (with_reducible repeat (first | refine blk_drewN ?_ _ | refine blk_drew ?_ | refine blk_alloc ?_ _)); exact BK653.out) hb); have n4_ := Aside0.mk (blk_below (g := gb659) (o := .cells #[.int .i64 t654, .slice Ao17 t655.length co17] 26 (0, 0)) (by (with_reducible repeat (first | refine blk_drewN ?_ _ | refine blk_drew ?_ | refine blk_alloc ?_ _)); refine blk_far ?_ NB659_665.out _; (with_reducible repeat (first | refine blk_drewN ?_ _ | refine blk_drew ?_ | refine blk_alloc ?_ _)); refine blk_far ?_ NB659_665.out _; (with_reducible repeat (first | refine blk_drewN ?_ _ | refine blk_drew ?_ | refine blk_alloc ?_ _)); exact BK659.out) hb); have n5_ := Aside0.mk (blk_below (g := gb665) (o := .cells #[.int .i64 t660, .slice Ao24 t661.length co24] 26 (0, 0)) (by (with_reducible repeat (first | refine blk_drewN ?_ _ | refine blk_drew ?_ | refine blk_alloc ?_ _)); refine blk_put (cs := #[.int .i64 t660, .slice none 0 0]) ?_ 1 _ rfl; (with_reducible repeat (first | refine blk_drewN ?_ _ | refine blk_drew ?_ | refine blk_alloc ?_ _)); refine blk_put (cs := #[.int .i64 0, .slice none 0 0]) ?_ 0 _ rfl; (with_reducible repeat (first | refine blk_drewN ?_ _ | refine blk_drew ?_ | refine blk_alloc ?_ _)); exact BK665.out) hb); have n6_ := Aside0.mk (below_step (by repeat (first | (with_reducible first | exact HB.out | apply below_alloc | apply pw_below_drewN | apply below_drew1 | refine below_set ?_ GE653.out | refine below_set ?_ GE659.out | refine below_set ?_ GE665.out) | exact HB.out)) hb); clear HO652; clear HO657; clear HO663; clear BK653; clear BK659; clear BK665; clear HB; have HO652 := n0_; have HO657 := n1_; have HO663 := n2_; have BK653 := n3_; have BK659 := n4_; have BK665 := n5_; have HB := n6_; clear n0_ n1_ n2_ n3_ n4_ n5_ n6_; (try clear hb); (try clear hb2); (try clear hk); (try clear hi)))
    go_meet
    case rel => exact ⟨_, (!t666), (by first | rfl | (simp; done) | (simp [*]; done)), H', ⟨by first | omega | exact Nat.le_refl _⟩, ⟨by (with_reducible repeat (first | apply Kd.R_alloc | apply Kd.R_drewN | apply Kd.R_drew)); exact Kd.R_mono HO652.out (fun _ hk => ⟨hk.1.2, hk.2⟩)⟩, ⟨by (with_reducible repeat (first | apply Kd.R_alloc | apply Kd.R_drewN | apply Kd.R_drew)); exact Kd.R_mono HO657.out (fun _ hk => ⟨hk.1.2, hk.2⟩)⟩, ⟨by (with_reducible repeat (first | apply Kd.R_alloc | apply Kd.R_drewN | apply Kd.R_drew)); exact Kd.R_mono HO663.out (fun _ hk => ⟨hk.1.2, hk.2⟩)⟩, ⟨by (with_reducible repeat (first | refine blk_drewN ?_ _ | refine blk_drew ?_ | refine blk_alloc ?_ _)); exact BK653.out⟩, ⟨by (with_reducible repeat (first | refine blk_drewN ?_ _ | refine blk_drew ?_ | refine blk_alloc ?_ _)); exact BK659.out⟩, ⟨by (with_reducible repeat (first | refine blk_drewN ?_ _ | refine blk_drew ?_ | refine blk_alloc ?_ _)); exact BK665.out⟩, ⟨by repeat (first | (with_reducible first | exact HB.out | apply below_alloc | apply pw_below_drewN | apply below_drew1 | refine below_set ?_ GE653.out | refine below_set ?_ GE659.out | refine below_set ?_ GE665.out) | exact HB.out)⟩⟩
  case rest =>
   clear HC8
   try clear c1
   try clear c2
   try clear p2
   try clear c3
   try clear c4
   try clear c5
   try clear c15
   try clear c20
   try clear c21
   try clear c22
   try clear c25
   try clear c25b0
   try clear c25b1
   try clear c25b2
   try clear c27
   try clear c28
   try clear c29
   try clear c30
   try clear hcz11_0
   try clear hcz11_1
   try clear hcz16_0
   try clear hcz16_1
   try clear hcz18_0
   try clear hcz18_1
   try clear hcz23_0
   try clear hcz23_1
   try clear hcz29_0
   try clear hcz29_1
   try clear hcz31_0
   try clear hcz31_1
   try clear hfz11_0
   try clear hfz11_1
   try clear hfz16_0
   try clear hfz16_1
   try clear hfz18_0
   try clear hfz18_1
   try clear hfz23_0
   try clear hfz23_1
   try clear hfz29_0
   try clear hfz29_1
   try clear hfz31_0
   try clear hfz31_1
   obtain ⟨kq, x45_7, rfl, HA, HJ7, HO_654001, HO_660001, HO_666001, BK653, BK659, BK665, HB⟩ := hcut
   cases kq with
   | zero => exact absurd HA.out (by simp [laws_FnMirrors.j0])
   | succ kj7 =>
    have H := HA.out
    clear HA
    simp only [laws_FnMirrors.j0] at H
    by_cases c33 : x45_7 = true
    ·subst c33
     have H1 : (some false) = some r := by rw [if_pos rfl] at H; exact H
     clear H
     have H := H1
     clear H1
     obtain rfl := Option.some.inj H
     go_wp2
     go_ret
     exact ⟨by first | rfl | (simp [errW_none, errW_some] <;> rfl) | (simp [*, errW_none, errW_some] <;> rfl), by repeat (first | (with_reducible first | exact HB.out | apply below_alloc | apply pw_below_drewN | apply below_drew1 | refine below_set ?_ GE653.out | refine below_set ?_ GE659.out | refine below_set ?_ GE665.out) | exact HB.out)⟩
    ·replace c33 := Bool.eq_false_iff.mpr c33
     subst c33
     have H1 : (if t664 = true then ((impl_MirrorOf.f kj7 t654 t655).bind fun bt667 => (if bt667.2.2 = true then ((laws_pSameOrder.f kj7 bt667.1 bt667.2.1 t649 t650).bind fun t673 => (if t673 = true then ((impl_IsOrder.f kj7 t649 t650).bind fun t674 => ((impl_IsOrder.f kj7 t654 t655).bind fun t675 => (laws_FnMirrors.j1 kj7 (t674 != t675) t649 t650 t654 t655))) else (laws_FnMirrors.j1 kj7 true t649 t650 t654 t655))) else (laws_FnMirrors.j1 kj7 true t649 t650 t654 t655))) else (some true)) = some r := by rw [if_neg (show ¬ (false = true) by decide)] at H; exact H
     clear H
     have H := H1
     clear H1
     by_cases c34 : t664 = true
     ·subst c34
      have H1 : ((impl_MirrorOf.f kj7 t654 t655).bind fun bt667 => (if bt667.2.2 = true then ((laws_pSameOrder.f kj7 bt667.1 bt667.2.1 t649 t650).bind fun t673 => (if t673 = true then ((impl_IsOrder.f kj7 t649 t650).bind fun t674 => ((impl_IsOrder.f kj7 t654 t655).bind fun t675 => (laws_FnMirrors.j1 kj7 (t674 != t675) t649 t650 t654 t655))) else (laws_FnMirrors.j1 kj7 true t649 t650 t654 t655))) else (laws_FnMirrors.j1 kj7 true t649 t650 t654 t655))) = some r := by rw [if_pos rfl] at H; exact H
      clear H
      have H := H1
      clear H1
      replace H := Option.bind_eq_some_iff.mp H
      obtain ⟨⟨t667, t668, t671⟩, A350, H⟩ := H
      replace H : (if t671 = true then ((laws_pSameOrder.f kj7 t667 t668 t649 t650).bind fun t673 => (if t673 = true then ((impl_IsOrder.f kj7 t649 t650).bind fun t674 => ((impl_IsOrder.f kj7 t654 t655).bind fun t675 => (laws_FnMirrors.j1 kj7 (t674 != t675) t649 t650 t654 t655))) else (laws_FnMirrors.j1 kj7 true t649 t650 t654 t655))) else (laws_FnMirrors.j1 kj7 true t649 t650 t654 t655)) = some r := H
      have A35 := Aside0.mk A350
      clear A350
      have HC36 := Aside0.mk H
      clear H
      have hnb37 := NB659_653.out
      have hnc37 := NB653_659.out
      have hnb38 := NB659_665.out
      have hnc38 := NB665_659.out
      have hcz39_0 : wc.cell? ⟨gb659, 0, none⟩ = some (.int .i64 t654) := (blk_cell BK659.out 0).trans rfl
      have hcz39_1 : wc.cell? ⟨gb659, 1, none⟩ = some (.slice Ao17 t655.length co17) := (blk_cell BK659.out 1).trans rfl
      have hfz39_0 := blk_frozen BK659.out 0
      have hfz39_1 := blk_frozen BK659.out 1
      go_upto_region 11 with (first | ((with_reducible refine gate_callee (f := 29) rfl ?_); refine goesL_ (some 50) rfl rfl Tryd.func29 (by kernel_rfl) rfl #[.agg #[.int .i64 t654, .slice Ao17 t655.length co17]] rfl (by (try simp only [List.map_toArray, List.map_cons, List.map_nil]); first | done | rfl | (simp only [List.length_drop, List.length_take]; rfl)) ?_; (with_reducible refine (impl_MirrorOf.calls kj7 t654 _ _ t655 t667 t668 t671 _ ?side1 ?side2 A35.out).mono ?_); (case side1 => repeat (first | exact (Kd.R_reads' HO_660001.out).2.2 | (with_reducible refine Kd.C_alloc ?_ _) | (with_reducible refine Kd.C_drewN ?_ _) | (with_reducible refine Kd.C_drew ?_))); (case side2 => exact (Kd.R_reads' HO_660001.out).2.1); rintro e w40 ⟨v669, rfl, ho0, hb⟩; refine ⟨_, rfl, ?_⟩; have n0_ := Aside0.mk (Kd.R_elder' (by (with_reducible repeat (first | apply Kd.R_alloc | apply Kd.R_drewN | apply Kd.R_drew)); exact HO_654001.out) (Kd.R_base ho0) hb); have n1_ := Aside0.mk (Kd.R_elder' (by (with_reducible repeat (first | apply Kd.R_alloc | apply Kd.R_drewN | apply Kd.R_drew)); exact HO_660001.out) (Kd.R_base ho0) hb); have n2_ := Aside0.mk (Kd.R_elder' (by (with_reducible repeat (first | apply Kd.R_alloc | apply Kd.R_drewN | apply Kd.R_drew)); exact HO_666001.out) (Kd.R_base ho0) hb); have n3_ := Aside0.mk (Kd.R_lower (Kd.R_new' (Kd.R_new' (Kd.R_new' ho0 (Kd.R_lt (by (with_reducible repeat (first | apply Kd.R_alloc | apply Kd.R_drewN | apply Kd.R_drew)); exact HO_654001.out))) (Kd.R_lt (by (with_reducible repeat (first | apply Kd.R_alloc | apply Kd.R_drewN | apply Kd.R_drew)); exact HO_660001.out))) (Kd.R_lt (by (with_reducible repeat (first | apply Kd.R_alloc | apply Kd.R_drewN | apply Kd.R_drew)); exact HO_666001.out))) (below_size (by repeat (first | (with_reducible first | exact HB.out | apply below_alloc | apply pw_below_drewN | apply below_drew1 | refine below_set ?_ GE653.out | refine below_set ?_ GE659.out | refine below_set ?_ GE665.out) | exact HB.out)))); have n4_ := Aside0.mk (blk_below (g := gb653) (o := .cells #[.int .i64 t649, .slice Ao12 t650.length co12] 26 (0, 0)) (by (with_reducible repeat (first | refine blk_drewN ?_ _ | refine blk_drew ?_ | refine blk_alloc ?_ _)); exact BK653.out) hb); have n5_ := Aside0.mk (blk_below (g := gb659) (o := .cells #[.int .i64 t654, .slice Ao17 t655.length co17] 26 (0, 0)) (by (with_reducible repeat (first | refine blk_drewN ?_ _ | refine blk_drew ?_ | refine blk_alloc ?_ _)); exact BK659.out) hb); have n6_ := Aside0.mk (blk_below (g := gb665) (o := .cells #[.int .i64 t660, .slice Ao24 t661.length co24] 26 (0, 0)) (by (with_reducible repeat (first | refine blk_drewN ?_ _ | refine blk_drew ?_ | refine blk_alloc ?_ _)); exact BK665.out) hb); have n7_ := Aside0.mk (below_step (by repeat (first | (with_reducible first | exact HB.out | apply below_alloc | apply pw_below_drewN | apply below_drew1 | refine below_set ?_ GE653.out | refine below_set ?_ GE659.out | refine below_set ?_ GE665.out) | exact HB.out)) hb); clear HO_654001; clear HO_660001; clear HO_666001; clear BK653; clear BK659; clear BK665; clear HB; have HO_654001 := n0_; have HO_660001 := n1_; have HO_666001 := n2_; have HO670 := n3_; have BK653 := n4_; have BK659 := n5_; have BK665 := n6_; have HB := n7_; clear n0_ n1_ n2_ n3_ n4_ n5_ n6_ n7_; (try clear hb); (try clear hb2); (try clear hk); (try clear hi); (try clear ho0)) | ((with_reducible refine gate_dst (N := 10) rfl ?_); refine box_event ?hg (N := 10) ?hd (cs := #[.int .i64 0, .slice none 0 0]) (t := 26) ?hr ?_; (case hd => rfl); (case hg => rfl); (case hr => first | (go_simp; done) | (go_simp; rfl)); intro gb672 hg w41 hbox hb; have n0_ := Aside0.mk (Kd.R_below (by (with_reducible repeat (first | apply Kd.R_alloc | apply Kd.R_drewN | apply Kd.R_drew)); exact HO_654001.out) hb); have n1_ := Aside0.mk (Kd.R_below (by (with_reducible repeat (first | apply Kd.R_alloc | apply Kd.R_drewN | apply Kd.R_drew)); exact HO_660001.out) hb); have n2_ := Aside0.mk (Kd.R_below (by (with_reducible repeat (first | apply Kd.R_alloc | apply Kd.R_drewN | apply Kd.R_drew)); exact HO_666001.out) hb); have n3_ := Aside0.mk (Kd.R_below (by (with_reducible repeat (first | apply Kd.R_alloc | apply Kd.R_drewN | apply Kd.R_drew)); exact HO670.out) hb); have n4_ := Aside0.mk (blk_below (g := gb653) (o := .cells #[.int .i64 t649, .slice Ao12 t650.length co12] 26 (0, 0)) (by (with_reducible repeat (first | refine blk_drewN ?_ _ | refine blk_drew ?_ | refine blk_alloc ?_ _)); exact BK653.out) hb); have n5_ := Aside0.mk (blk_below (g := gb659) (o := .cells #[.int .i64 t654, .slice Ao17 t655.length co17] 26 (0, 0)) (by (with_reducible repeat (first | refine blk_drewN ?_ _ | refine blk_drew ?_ | refine blk_alloc ?_ _)); exact BK659.out) hb); have n6_ := Aside0.mk (blk_below (g := gb665) (o := .cells #[.int .i64 t660, .slice Ao24 t661.length co24] 26 (0, 0)) (by (with_reducible repeat (first | refine blk_drewN ?_ _ | refine blk_drew ?_ | refine blk_alloc ?_ _)); exact BK665.out) hb); have n7_ := Aside0.mk (below_step (by repeat (first | (with_reducible first | exact HB.out | apply below_alloc | apply pw_below_drewN | apply below_drew1 | refine below_set ?_ GE653.out | refine below_set ?_ GE659.out | refine below_set ?_ GE665.out) | exact HB.out)) hb); have n8_ := Aside0.mk (hbox); have n9_ := Aside0.mk ((by rw [hg]; exact (below_size (by repeat (first | (with_reducible first | exact HB.out | apply below_alloc | apply pw_below_drewN | apply below_drew1 | refine below_set ?_ GE653.out | refine below_set ?_ GE659.out | refine below_set ?_ GE665.out) | exact HB.out))) : w.heap.size ≤ gb672)); have n10_ := Aside0.mk ((by rw [hg]; exact (below_size (by repeat (first | (with_reducible first | exact HB.out | apply below_alloc | apply pw_below_drewN | apply below_drew1 | refine below_set ?_ GE653.out | refine below_set ?_ GE659.out | refine below_set ?_ GE665.out) | exact HB.out))) : w.heap.size ≤ gb672)); have n11_ := Aside0.mk ((by rw [hg]; exact Nat.ne_of_lt (blk_lt (g := gb653) (o := .cells #[.int .i64 t649, .slice Ao12 t650.length co12] 26 (0, 0)) (by (with_reducible repeat (first | refine blk_drewN ?_ _ | refine blk_drew ?_ | refine blk_alloc ?_ _)); exact BK653.out)) : gb653 ≠ gb672)); have n12_ := Aside0.mk ((by rw [hg]; exact Nat.ne_of_gt (blk_lt (g := gb653) (o := .cells #[.int .i64 t649, .slice Ao12 t650.length co12] 26 (0, 0)) (by (with_reducible repeat (first | refine blk_drewN ?_ _ | refine blk_drew ?_ | refine blk_alloc ?_ _)); exact BK653.out)) : gb672 ≠ gb653)); have n13_ := Aside0.mk ((by rw [hg]; exact Nat.ne_of_lt (blk_lt (g := gb659) (o := .cells #[.int .i64 t654, .slice Ao17 t655.length co17] 26 (0, 0)) (by (with_reducible repeat (first | refine blk_drewN ?_ _ | refine blk_drew ?_ | refine blk_alloc ?_ _)); exact BK659.out)) : gb659 ≠ gb672)); have n14_ := Aside0.mk ((by rw [hg]; exact Nat.ne_of_gt (blk_lt (g := gb659) (o := .cells #[.int .i64 t654, .slice Ao17 t655.length co17] 26 (0, 0)) (by (with_reducible repeat (first | refine blk_drewN ?_ _ | refine blk_drew ?_ | refine blk_alloc ?_ _)); exact BK659.out)) : gb672 ≠ gb659)); have n15_ := Aside0.mk ((by rw [hg]; exact Nat.ne_of_lt (blk_lt (g := gb665) (o := .cells #[.int .i64 t660, .slice Ao24 t661.length co24] 26 (0, 0)) (by (with_reducible repeat (first | refine blk_drewN ?_ _ | refine blk_drew ?_ | refine blk_alloc ?_ _)); exact BK665.out)) : gb665 ≠ gb672)); have n16_ := Aside0.mk ((by rw [hg]; exact Nat.ne_of_gt (blk_lt (g := gb665) (o := .cells #[.int .i64 t660, .slice Ao24 t661.length co24] 26 (0, 0)) (by (with_reducible repeat (first | refine blk_drewN ?_ _ | refine blk_drew ?_ | refine blk_alloc ?_ _)); exact BK665.out)) : gb672 ≠ gb665)); clear HO_654001; clear HO_660001; clear HO_666001; clear HO670; clear BK653; clear BK659; clear BK665; clear HB; have HO_654001 := n0_; have HO_660001 := n1_; have HO_666001 := n2_; have HO670 := n3_; have BK653 := n4_; have BK659 := n5_; have BK665 := n6_; have HB := n7_; have BK672 := n8_; have GW672 := n9_; have GE672 := n10_; have NB653_672 := n11_; have NB672_653 := n12_; have NB659_672 := n13_; have NB672_659 := n14_; have NB665_672 := n15_; have NB672_665 := n16_; clear n0_ n1_ n2_ n3_ n4_ n5_ n6_ n7_ n8_ n9_ n10_ n11_ n12_ n13_ n14_ n15_ n16_; clear hb hbox hg; have hnb42 := NB672_653.out; have hnc42 := NB653_672.out; have hnb43 := NB672_659.out; have hnc43 := NB659_672.out; have hnb44 := NB672_665.out; have hnc44 := NB665_672.out; have hcz45_0 : w41.cell? ⟨gb672, 0, none⟩ = some (.int .i64 0) := (blk_cell BK672.out 0).trans rfl; have hcz45_1 : w41.cell? ⟨gb672, 1, none⟩ = some (.slice none 0 0) := (blk_cell BK672.out 1).trans rfl; have hfz45_0 := blk_frozen BK672.out 0; have hfz45_1 := blk_frozen BK672.out 1; obtain ⟨Ao46, co46, eo46⟩ := Kd.R_slice HO670.out; subst eo46))
      (try simp only [Act.put, L_,M_,N_])
      go_cut [67] (fun v67 wc => ∃ (kq : Nat) (x67_35 : Bool), v67 = .bool x67_35 ∧ Aside0 (laws_FnMirrors.j1 kq x67_35 t649 t650 t654 t655 = some r) ∧ Aside0 (kq ≤ kj7) ∧ Aside0 (Kd.R (Kd.int .i64) 3 wc w.heap.size (fun k_ => some k_ ≠ ((.slice Ao17 t655.length co17) : Value).ownBlock ∧ some k_ ≠ ((.slice Ao24 t661.length co24) : Value).ownBlock ∧ some k_ ≠ ((.slice Ao46 t668.length co46) : Value).ownBlock) (.slice Ao12 t650.length co12) t650) ∧ Aside0 (Kd.R (Kd.int .i64) 3 wc w.heap.size (fun k_ => some k_ ≠ ((.slice Ao12 t650.length co12) : Value).ownBlock ∧ some k_ ≠ ((.slice Ao24 t661.length co24) : Value).ownBlock ∧ some k_ ≠ ((.slice Ao46 t668.length co46) : Value).ownBlock) (.slice Ao17 t655.length co17) t655) ∧ Aside0 (Kd.R (Kd.int .i64) 3 wc w.heap.size (fun k_ => some k_ ≠ ((.slice Ao12 t650.length co12) : Value).ownBlock ∧ some k_ ≠ ((.slice Ao17 t655.length co17) : Value).ownBlock ∧ some k_ ≠ ((.slice Ao46 t668.length co46) : Value).ownBlock) (.slice Ao24 t661.length co24) t661) ∧ Aside0 (Kd.R (Kd.int .i64) 3 wc w.heap.size (fun k_ => some k_ ≠ ((.slice Ao12 t650.length co12) : Value).ownBlock ∧ some k_ ≠ ((.slice Ao17 t655.length co17) : Value).ownBlock ∧ some k_ ≠ ((.slice Ao24 t661.length co24) : Value).ownBlock) (.slice Ao46 t668.length co46) t668) ∧ Aside0 (wc.heap[gb653]? = some (.cells #[.int .i64 t649, (.slice Ao12 t650.length co12)] 26 (0, 0))) ∧ Aside0 (wc.heap[gb659]? = some (.cells #[.int .i64 t654, (.slice Ao17 t655.length co17)] 26 (0, 0))) ∧ Aside0 (wc.heap[gb665]? = some (.cells #[.int .i64 t660, (.slice Ao24 t661.length co24)] 26 (0, 0))) ∧ Aside0 (wc.heap[gb672]? = some (.cells #[.int .i64 t667, (.slice Ao46 t668.length co46)] 26 (0, 0))) ∧ Aside0 (Below w.heap.size w wc))
      case first =>
       have H := HC36.out
       clear HC36
       by_cases c47 : t671 = true
       ·subst c47
        have H1 : ((laws_pSameOrder.f kj7 t667 t668 t649 t650).bind fun t673 => (if t673 = true then ((impl_IsOrder.f kj7 t649 t650).bind fun t674 => ((impl_IsOrder.f kj7 t654 t655).bind fun t675 => (laws_FnMirrors.j1 kj7 (t674 != t675) t649 t650 t654 t655))) else (laws_FnMirrors.j1 kj7 true t649 t650 t654 t655))) = some r := by rw [if_pos rfl] at H; exact H
        clear H
        have H := H1
        clear H1
        replace H := Option.bind_eq_some_iff.mp H
        obtain ⟨t673, A480, H⟩ := H
        replace H : (if t673 = true then ((impl_IsOrder.f kj7 t649 t650).bind fun t674 => ((impl_IsOrder.f kj7 t654 t655).bind fun t675 => (laws_FnMirrors.j1 kj7 (t674 != t675) t649 t650 t654 t655))) else (laws_FnMirrors.j1 kj7 true t649 t650 t654 t655)) = some r := H
        have A48 := Aside0.mk A480
        clear A480
        by_cases c49 : t673 = true
        ·subst c49
         have H1 : ((impl_IsOrder.f kj7 t649 t650).bind fun t674 => ((impl_IsOrder.f kj7 t654 t655).bind fun t675 => (laws_FnMirrors.j1 kj7 (t674 != t675) t649 t650 t654 t655))) = some r := by rw [if_pos rfl] at H; exact H
         clear H
         have H := H1
         clear H1
         replace H := Option.bind_eq_some_iff.mp H
         obtain ⟨t674, A500, H⟩ := H
         replace H : ((impl_IsOrder.f kj7 t654 t655).bind fun t675 => (laws_FnMirrors.j1 kj7 (t674 != t675) t649 t650 t654 t655)) = some r := H
         have A50 := Aside0.mk A500
         clear A500
         replace H := Option.bind_eq_some_iff.mp H
         obtain ⟨t675, A510, H⟩ := H
         replace H : (laws_FnMirrors.j1 kj7 (t674 != t675) t649 t650 t654 t655) = some r := H
         have A51 := Aside0.mk A510
         clear A510
         have H' := Aside0.mk H
         clear H
         try go_wp2
         have n0_ : Aside0 (Kd.R (Kd.int .i64) 3 ((w41.setCell ⟨gb672, 0, none⟩ (.int .i64 t667)).setCell ⟨gb672, 1, none⟩ (.slice Ao46 t668.length co46)) w.heap.size (fun k_ => some k_ ≠ (.slice Ao17 t655.length co17 : Value).ownBlock ∧ some k_ ≠ (.slice Ao24 t661.length co24 : Value).ownBlock ∧ some k_ ≠ (.slice Ao46 t668.length co46 : Value).ownBlock) (.slice Ao12 t650.length co12) t650) := ⟨by (with_reducible repeat (first | apply Kd.R_alloc | apply Kd.R_drewN | apply Kd.R_drew)); exact Kd.R_mono (Kd.R_far (p := ⟨gb672, 1, none⟩) (Kd.R_far (p := ⟨gb672, 0, none⟩) (Kd.R_types HO_654001.out BK672.out (by decide)) (fun _ hk => hk.2) (.int .i64 t667)) (fun _ hk => hk.2) (.slice Ao46 t668.length co46)) (fun _ hk => ⟨hk.1.1.1, ⟨hk.1.1.2, hk.1.2⟩⟩)⟩
         have n1_ : Aside0 (Kd.R (Kd.int .i64) 3 ((w41.setCell ⟨gb672, 0, none⟩ (.int .i64 t667)).setCell ⟨gb672, 1, none⟩ (.slice Ao46 t668.length co46)) w.heap.size (fun k_ => some k_ ≠ (.slice Ao12 t650.length co12 : Value).ownBlock ∧ some k_ ≠ (.slice Ao24 t661.length co24 : Value).ownBlock ∧ some k_ ≠ (.slice Ao46 t668.length co46 : Value).ownBlock) (.slice Ao17 t655.length co17) t655) := ⟨by (with_reducible repeat (first | apply Kd.R_alloc | apply Kd.R_drewN | apply Kd.R_drew)); exact Kd.R_mono (Kd.R_far (p := ⟨gb672, 1, none⟩) (Kd.R_far (p := ⟨gb672, 0, none⟩) (Kd.R_types HO_660001.out BK672.out (by decide)) (fun _ hk => hk.2) (.int .i64 t667)) (fun _ hk => hk.2) (.slice Ao46 t668.length co46)) (fun _ hk => ⟨hk.1.1.1, ⟨hk.1.1.2, hk.1.2⟩⟩)⟩
         have n2_ : Aside0 (Kd.R (Kd.int .i64) 3 ((w41.setCell ⟨gb672, 0, none⟩ (.int .i64 t667)).setCell ⟨gb672, 1, none⟩ (.slice Ao46 t668.length co46)) w.heap.size (fun k_ => some k_ ≠ (.slice Ao12 t650.length co12 : Value).ownBlock ∧ some k_ ≠ (.slice Ao17 t655.length co17 : Value).ownBlock ∧ some k_ ≠ (.slice Ao46 t668.length co46 : Value).ownBlock) (.slice Ao24 t661.length co24) t661) := ⟨by (with_reducible repeat (first | apply Kd.R_alloc | apply Kd.R_drewN | apply Kd.R_drew)); exact Kd.R_mono (Kd.R_far (p := ⟨gb672, 1, none⟩) (Kd.R_far (p := ⟨gb672, 0, none⟩) (Kd.R_types HO_666001.out BK672.out (by decide)) (fun _ hk => hk.2) (.int .i64 t667)) (fun _ hk => hk.2) (.slice Ao46 t668.length co46)) (fun _ hk => ⟨hk.1.1.1, ⟨hk.1.1.2, hk.1.2⟩⟩)⟩
         have n3_ : Aside0 (Kd.R (Kd.int .i64) 3 ((w41.setCell ⟨gb672, 0, none⟩ (.int .i64 t667)).setCell ⟨gb672, 1, none⟩ (.slice Ao46 t668.length co46)) w.heap.size (fun k_ => some k_ ≠ (.slice Ao12 t650.length co12 : Value).ownBlock ∧ some k_ ≠ (.slice Ao17 t655.length co17 : Value).ownBlock ∧ some k_ ≠ (.slice Ao24 t661.length co24 : Value).ownBlock) (.slice Ao46 t668.length co46) t668) := ⟨by (with_reducible repeat (first | apply Kd.R_alloc | apply Kd.R_drewN | apply Kd.R_drew)); exact Kd.R_mono (Kd.R_far (p := ⟨gb672, 1, none⟩) (Kd.R_far (p := ⟨gb672, 0, none⟩) (Kd.R_types HO670.out BK672.out (by decide)) (fun _ hk => hk.2) (.int .i64 t667)) (fun _ hk => hk.2) (.slice Ao46 t668.length co46)) (fun _ hk => ⟨hk.1.1.1.2, ⟨hk.1.1.2, hk.1.2⟩⟩)⟩
         have n4_ : Aside0 (((w41.setCell ⟨gb672, 0, none⟩ (.int .i64 t667)).setCell ⟨gb672, 1, none⟩ (.slice Ao46 t668.length co46)).heap[gb653]? = some (.cells #[.int .i64 t649, .slice Ao12 t650.length co12] 26 (0, 0))) := ⟨by (with_reducible repeat (first | refine blk_drewN ?_ _ | refine blk_drew ?_ | refine blk_alloc ?_ _)); refine blk_far ?_ NB653_672.out _; (with_reducible repeat (first | refine blk_drewN ?_ _ | refine blk_drew ?_ | refine blk_alloc ?_ _)); refine blk_far ?_ NB653_672.out _; (with_reducible repeat (first | refine blk_drewN ?_ _ | refine blk_drew ?_ | refine blk_alloc ?_ _)); exact BK653.out⟩
         have n5_ : Aside0 (((w41.setCell ⟨gb672, 0, none⟩ (.int .i64 t667)).setCell ⟨gb672, 1, none⟩ (.slice Ao46 t668.length co46)).heap[gb659]? = some (.cells #[.int .i64 t654, .slice Ao17 t655.length co17] 26 (0, 0))) := ⟨by (with_reducible repeat (first | refine blk_drewN ?_ _ | refine blk_drew ?_ | refine blk_alloc ?_ _)); refine blk_far ?_ NB659_672.out _; (with_reducible repeat (first | refine blk_drewN ?_ _ | refine blk_drew ?_ | refine blk_alloc ?_ _)); refine blk_far ?_ NB659_672.out _; (with_reducible repeat (first | refine blk_drewN ?_ _ | refine blk_drew ?_ | refine blk_alloc ?_ _)); exact BK659.out⟩
         have n6_ : Aside0 (((w41.setCell ⟨gb672, 0, none⟩ (.int .i64 t667)).setCell ⟨gb672, 1, none⟩ (.slice Ao46 t668.length co46)).heap[gb665]? = some (.cells #[.int .i64 t660, .slice Ao24 t661.length co24] 26 (0, 0))) := ⟨by (with_reducible repeat (first | refine blk_drewN ?_ _ | refine blk_drew ?_ | refine blk_alloc ?_ _)); refine blk_far ?_ NB665_672.out _; (with_reducible repeat (first | refine blk_drewN ?_ _ | refine blk_drew ?_ | refine blk_alloc ?_ _)); refine blk_far ?_ NB665_672.out _; (with_reducible repeat (first | refine blk_drewN ?_ _ | refine blk_drew ?_ | refine blk_alloc ?_ _)); exact BK665.out⟩
         have n7_ : Aside0 (((w41.setCell ⟨gb672, 0, none⟩ (.int .i64 t667)).setCell ⟨gb672, 1, none⟩ (.slice Ao46 t668.length co46)).heap[gb672]? = some (.cells #[.int .i64 t667, .slice Ao46 t668.length co46] 26 (0, 0))) := ⟨by (with_reducible repeat (first | refine blk_drewN ?_ _ | refine blk_drew ?_ | refine blk_alloc ?_ _)); refine blk_put (cs := #[.int .i64 t667, .slice none 0 0]) ?_ 1 _ rfl; (with_reducible repeat (first | refine blk_drewN ?_ _ | refine blk_drew ?_ | refine blk_alloc ?_ _)); refine blk_put (cs := #[.int .i64 0, .slice none 0 0]) ?_ 0 _ rfl; (with_reducible repeat (first | refine blk_drewN ?_ _ | refine blk_drew ?_ | refine blk_alloc ?_ _)); exact BK672.out⟩
         have n8_ : Aside0 (Below w.heap.size w ((w41.setCell ⟨gb672, 0, none⟩ (.int .i64 t667)).setCell ⟨gb672, 1, none⟩ (.slice Ao46 t668.length co46))) := ⟨by repeat (first | (with_reducible first | exact HB.out | apply below_alloc | apply pw_below_drewN | apply below_drew1 | refine below_set ?_ GE653.out | refine below_set ?_ GE659.out | refine below_set ?_ GE665.out | refine below_set ?_ GE672.out) | exact HB.out)⟩
         (try clear HO_654001)
         (try clear HO_660001)
         (try clear HO_666001)
         (try clear HO670)
         (try clear BK653)
         (try clear BK659)
         (try clear BK665)
         (try clear BK672)
         (try clear HB)
         generalize ((w41.setCell ⟨gb672, 0, none⟩ (.int .i64 t667)).setCell ⟨gb672, 1, none⟩ (.slice Ao46 t668.length co46)) = w52 at n0_ n1_ n2_ n3_ n4_ n5_ n6_ n7_ n8_ ⊢
         have HO_654001 := n0_
         have HO_660001 := n1_
         have HO_666001 := n2_
         have HO670 := n3_
         have BK653 := n4_
         have BK659 := n5_
         have BK665 := n6_
         have BK672 := n7_
         have HB := n8_
         clear n0_ n1_ n2_ n3_ n4_ n5_ n6_ n7_ n8_
         have n0_ := Aside0.mk (Kd.R_drew HO_654001.out)
         have n1_ := Aside0.mk (Kd.R_drew HO_660001.out)
         have n2_ := Aside0.mk (Kd.R_drew HO_666001.out)
         have n3_ := Aside0.mk (Kd.R_drew HO670.out)
         have n4_ := Aside0.mk (blk_drew BK653.out)
         have n5_ := Aside0.mk (blk_drew BK659.out)
         have n6_ := Aside0.mk (blk_drew BK665.out)
         have n7_ := Aside0.mk (blk_drew BK672.out)
         have n8_ := Aside0.mk (below_drew1 HB.out)
         clear HO_654001
         clear HO_660001
         clear HO_666001
         clear HO670
         clear BK653
         clear BK659
         clear BK665
         clear BK672
         clear HB
         have HO_654001 := n0_
         have HO_660001 := n1_
         have HO_666001 := n2_
         have HO670 := n3_
         have BK653 := n4_
         have BK659 := n5_
         have BK665 := n6_
         have BK672 := n7_
         have HB := n8_
         clear n0_ n1_ n2_ n3_ n4_ n5_ n6_ n7_ n8_
         refine start_ (n := 15) (S := fun w' => w'.cell? ⟨gb672, 0, none⟩ = some (.int .i64 t667) ∧ w'.cell? ⟨gb672, 1, none⟩ = some (.slice Ao46 t668.length co46) ∧ w'.cell? ⟨gb653, 0, none⟩ = some (.int .i64 t649) ∧ w'.cell? ⟨gb653, 1, none⟩ = some (.slice Ao12 t650.length co12) ∧ w'.cell? ⟨gb659, 0, none⟩ = some (.int .i64 t654) ∧ w'.cell? ⟨gb659, 1, none⟩ = some (.slice Ao17 t655.length co17)) (ds := []) #[F,F,F,F,F,F,F,F,F,F,F,F,F,F,F] (by kernel_rfl) rfl rfl ⟨(blk_cell BK672.out 0).trans rfl, (blk_cell BK672.out 1).trans rfl, (blk_cell BK653.out 0).trans rfl, (blk_cell BK653.out 1).trans rfl, (blk_cell BK659.out 0).trans rfl, (blk_cell BK659.out 1).trans rfl⟩ (fun hHeld => ?_); refine with_tabW laws_FnMirrors.tab11 laws_FnMirrors.bits11 (fun HT_ HW_ => ?_)
         generalize w52.drew = w53 at HO_654001 HO_660001 HO_666001 HO670 BK653 BK659 BK665 BK672 HB hHeld ⊢
         refine pure_ (i := 0) (N := some 53) (v := ?_) (a' := ?_) #[T,F,F,F,F,F,F,F,F,F,F,F,F,F,F] rfl rfl (any_of HT_.out (by kernel_rfl)) (fun _ _ _ h => h) (Or.inl ⟨by rfl, ?_⟩) ?_ ?_
         rotate_left;·intro w';go_simp;with_reducible rfl
         rotate_left;·simp only [Act.put, L_,M_,N_, i64_w, i32_w];rfl
         refine pure_ (i := 1) (N := some 54) (v := ?_) (a' := ?_) #[T,T,F,F,F,F,F,F,F,F,F,F,F,F,F] rfl rfl (any_of HT_.out (by kernel_rfl)) (fun _ _ _ h => h) (Or.inl ⟨by rfl, ?_⟩) ?_ ?_
         rotate_left;·intro w';go_simp;with_reducible rfl
         rotate_left;·simp only [Act.put, L_,M_,N_, i64_w, i32_w];rfl
         refine pure_ (i := 2) (N := some 55) (v := ?_) (a' := ?_) #[T,T,T,F,F,F,F,F,F,F,F,F,F,F,F] rfl rfl (any_of HT_.out (by kernel_rfl)) (fun _ _ _ h => h) (Or.inl ⟨by rfl, ?_⟩) ?_ ?_
         rotate_left;·intro w';go_simp;with_reducible rfl
         rotate_left;·simp only [Act.put, L_,M_,N_, i64_w, i32_w];rfl
         refine take_ (i := 3) (N := some 56) (v := ?_) (a' := ?_) #[T,T,T,T,F,F,F,F,F,F,F,F,F,F,F] rfl rfl (take_ofW HT_.out HW_.out (by kernel_rfl)) (fun _ _ _ h => h) (Or.inl ⟨by rfl, ?_⟩) hHeld ?_ ?_
         rotate_left
         ·rintro w' ⟨s0, s1, s2, s3, s4, s5⟩
          go_simp
          with_reducible rfl
         rotate_left;·simp only [Act.put, L_,M_,N_, i64_w, i32_w];rfl
         refine take_ (i := 4) (N := some 57) (v := ?_) (a' := ?_) #[T,T,T,T,T,F,F,F,F,F,F,F,F,F,F] rfl rfl (take_ofW HT_.out HW_.out (by kernel_rfl)) (fun _ _ _ h => h) (Or.inl ⟨by rfl, ?_⟩) hHeld ?_ ?_
         rotate_left
         ·rintro w' ⟨s0, s1, s2, s3, s4, s5⟩
          go_simp
          with_reducible rfl
         rotate_left;·simp only [Act.put, L_,M_,N_, i64_w, i32_w];rfl
         refine one_ (i := 5) (N := some 58) #[T,T,T,T,T,T,F,F,F,F,F,F,F,F,F] rfl rfl (one_of HT_.out (by kernel_rfl)) (by decide) (fun K hK => ?_)
         refine goes_ Tryd.func31 (by kernel_rfl) rfl #[.agg #[.int .i64 t667, .slice Ao46 t668.length co46], .agg #[.int .i64 t649, .slice Ao12 t650.length co12]] (by rfl) rfl rfl (by (try simp only [List.map_toArray, List.map_cons, List.map_nil]); first | done | rfl | (simp only [List.length_drop, List.length_take]; rfl)) ?_
         with_reducible refine (laws_pSameOrder.calls kj7 t667 _ _ t668 t649 _ _ t650 true _ ?side1 ?side2 ?side3 ?side4 A48.out).mono ?_
         (case side1 => repeat (first | exact (Kd.R_reads' HO670.out).2.2 | (with_reducible refine Kd.C_alloc ?_ _) | (with_reducible refine Kd.C_drewN ?_ _) | (with_reducible refine Kd.C_drew ?_)))
         (case side2 => exact (Kd.R_reads' HO670.out).2.1)
         (case side3 => repeat (first | exact (Kd.R_reads' HO_654001.out).2.2 | (with_reducible refine Kd.C_alloc ?_ _) | (with_reducible refine Kd.C_drewN ?_ _) | (with_reducible refine Kd.C_drew ?_)))
         (case side4 => exact (Kd.R_reads' HO_654001.out).2.1)
         rintro e w54 ⟨rfl, hb⟩
         refine ⟨_, rfl, ?_⟩
         have n0_ := Aside0.mk (Kd.R_below (by (with_reducible repeat (first | apply Kd.R_alloc | apply Kd.R_drewN | apply Kd.R_drew)); exact HO_654001.out) hb)
         have n1_ := Aside0.mk (Kd.R_below (by (with_reducible repeat (first | apply Kd.R_alloc | apply Kd.R_drewN | apply Kd.R_drew)); exact HO_660001.out) hb)
         have n2_ := Aside0.mk (Kd.R_below (by (with_reducible repeat (first | apply Kd.R_alloc | apply Kd.R_drewN | apply Kd.R_drew)); exact HO_666001.out) hb)
         have n3_ := Aside0.mk (Kd.R_below (by (with_reducible repeat (first | apply Kd.R_alloc | apply Kd.R_drewN | apply Kd.R_drew)); exact HO670.out) hb)
         have n4_ := Aside0.mk (blk_below (g := gb653) (o := .cells #[.int .i64 t649, .slice Ao12 t650.length co12] 26 (0, 0)) (by (with_reducible repeat (first | refine blk_drewN ?_ _ | refine blk_drew ?_ | refine blk_alloc ?_ _)); exact BK653.out) hb)
         have n5_ := Aside0.mk (blk_below (g := gb659) (o := .cells #[.int .i64 t654, .slice Ao17 t655.length co17] 26 (0, 0)) (by (with_reducible repeat (first | refine blk_drewN ?_ _ | refine blk_drew ?_ | refine blk_alloc ?_ _)); exact BK659.out) hb)
         have n6_ := Aside0.mk (blk_below (g := gb665) (o := .cells #[.int .i64 t660, .slice Ao24 t661.length co24] 26 (0, 0)) (by (with_reducible repeat (first | refine blk_drewN ?_ _ | refine blk_drew ?_ | refine blk_alloc ?_ _)); exact BK665.out) hb)
         have n7_ := Aside0.mk (blk_below (g := gb672) (o := .cells #[.int .i64 t667, .slice Ao46 t668.length co46] 26 (0, 0)) (by (with_reducible repeat (first | refine blk_drewN ?_ _ | refine blk_drew ?_ | refine blk_alloc ?_ _)); exact BK672.out) hb)
         have n8_ := Aside0.mk (below_step (by repeat (first | (with_reducible first | exact HB.out | apply below_alloc | apply pw_below_drewN | apply below_drew1 | refine below_set ?_ GE653.out | refine below_set ?_ GE659.out | refine below_set ?_ GE665.out | refine below_set ?_ GE672.out) | exact HB.out)) hb)
         clear HO_654001
         clear HO_660001
         clear HO_666001
         clear HO670
         clear BK653
         clear BK659
         clear BK665
         clear BK672
         clear HB
         have HO_654001 := n0_
         have HO_660001 := n1_
         have HO_666001 := n2_
         have HO670 := n3_
         have BK653 := n4_
         have BK659 := n5_
         have BK665 := n6_
         have BK672 := n7_
         have HB := n8_
         clear n0_ n1_ n2_ n3_ n4_ n5_ n6_ n7_ n8_
         (try clear hb)
         (try clear hb2)
         (try clear hk)
         (try clear hi)
         refine hK.out _ _ ⟨(blk_cell BK672.out 0).trans rfl, (blk_cell BK672.out 1).trans rfl, (blk_cell BK653.out 0).trans rfl, (blk_cell BK653.out 1).trans rfl, (blk_cell BK659.out 0).trans rfl, (blk_cell BK659.out 1).trans rfl⟩ (fun hHeld => ?_)
         clear hK K
         refine norm_ (a' := ?_) ?_ ?_
         rotate_left
         ·show Act.put _ (some 58) _ = _
          simp only [Act.put, L_,M_,N_, i64_w, i32_w]
          rfl
         refine pure_ (i := 6) (N := some 59) (v := ?_) (a' := ?_) #[T,T,T,T,T,T,T,F,F,F,F,F,F,F,F] rfl rfl (any_of HT_.out (by kernel_rfl)) (fun _ _ _ h => h) (Or.inl ⟨by rfl, ?_⟩) ?_ ?_
         rotate_left;·intro w';go_simp;with_reducible rfl
         rotate_left;·simp only [Act.put, L_,M_,N_, i64_w, i32_w];rfl
         refine pure_ (i := 7) (N := some 60) (v := ?_) (a' := ?_) #[T,T,T,T,T,T,T,T,F,F,F,F,F,F,F] rfl rfl (any_of HT_.out (by kernel_rfl)) (fun _ _ _ h => h) (Or.inl ⟨by rfl, ?_⟩) ?_ ?_
         rotate_left;·intro w';go_simp;with_reducible rfl
         rotate_left;·simp only [Act.put, L_,M_,N_, i64_w, i32_w];rfl
         refine pure_ (i := 8) (N := some 61) (v := ?_) (a' := ?_) #[T,T,T,T,T,T,T,T,T,F,F,F,F,F,F] rfl rfl (any_of HT_.out (by kernel_rfl)) (fun _ _ _ h => h) (Or.inl ⟨by rfl, ?_⟩) ?_ ?_
         rotate_left;·intro w';go_simp;with_reducible rfl
         rotate_left;·simp only [Act.put, L_,M_,N_, i64_w, i32_w];rfl
         refine take_ (i := 9) (N := some 62) (v := ?_) (a' := ?_) #[T,T,T,T,T,T,T,T,T,T,F,F,F,F,F] rfl rfl (take_ofW HT_.out HW_.out (by kernel_rfl)) (fun _ _ _ h => h) (Or.inl ⟨by rfl, ?_⟩) hHeld ?_ ?_
         rotate_left
         ·rintro w' ⟨s0, s1, s2, s3, s4, s5⟩
          go_simp
          with_reducible rfl
         rotate_left;·simp only [Act.put, L_,M_,N_, i64_w, i32_w];rfl
         refine take_ (i := 11) (N := some 64) (v := ?_) (a' := ?_) #[T,T,T,T,T,T,T,T,T,T,F,T,F,F,F] rfl rfl (take_ofW HT_.out HW_.out (by kernel_rfl)) (fun _ _ _ h => h) (Or.inl ⟨by rfl, ?_⟩) hHeld ?_ ?_
         rotate_left
         ·rintro w' ⟨s0, s1, s2, s3, s4, s5⟩
          go_simp
          with_reducible rfl
         rotate_left;·simp only [Act.put, L_,M_,N_, i64_w, i32_w];rfl
         refine one_ (i := 10) (N := some 63) #[T,T,T,T,T,T,T,T,T,T,T,T,F,F,F] rfl rfl (one_of HT_.out (by kernel_rfl)) (by decide) (fun K hK => ?_)
         refine goes_ Tryd.func32 (by kernel_rfl) rfl #[.agg #[.int .i64 t649, .slice Ao12 t650.length co12]] (by rfl) rfl rfl (by (try simp only [List.map_toArray, List.map_cons, List.map_nil]); first | done | rfl | (simp only [List.length_drop, List.length_take]; rfl)) ?_
         with_reducible refine (impl_IsOrder.calls kj7 t649 _ _ t650 t674 _ ?side1 ?side2 ?side3 A50.out).mono ?_
         (case side1 => repeat (first | exact (Kd.R_reads' HO_654001.out).2.2 | (with_reducible refine Kd.C_alloc ?_ _) | (with_reducible refine Kd.C_drewN ?_ _) | (with_reducible refine Kd.C_drew ?_)))
         (case side2 => exact (Kd.R_reads' HO_654001.out).2.1)
         (case side3 => first | exact HT.out | exact HT.out.below (by repeat (first | (with_reducible first | exact HB.out | apply below_alloc | apply pw_below_drewN | apply below_drew1 | refine below_set ?_ GE653.out | refine below_set ?_ GE659.out | refine below_set ?_ GE665.out | refine below_set ?_ GE672.out) | exact HB.out)) | (repeat (first | exact HT.out | apply TabOK.drewN | apply TabOK.drew | apply TabOK.alloc)))
         rintro e w55 ⟨rfl, hb⟩
         refine ⟨_, rfl, ?_⟩
         have n0_ := Aside0.mk (Kd.R_below (by (with_reducible repeat (first | apply Kd.R_alloc | apply Kd.R_drewN | apply Kd.R_drew)); exact HO_654001.out) hb)
         have n1_ := Aside0.mk (Kd.R_below (by (with_reducible repeat (first | apply Kd.R_alloc | apply Kd.R_drewN | apply Kd.R_drew)); exact HO_660001.out) hb)
         have n2_ := Aside0.mk (Kd.R_below (by (with_reducible repeat (first | apply Kd.R_alloc | apply Kd.R_drewN | apply Kd.R_drew)); exact HO_666001.out) hb)
         have n3_ := Aside0.mk (Kd.R_below (by (with_reducible repeat (first | apply Kd.R_alloc | apply Kd.R_drewN | apply Kd.R_drew)); exact HO670.out) hb)
         have n4_ := Aside0.mk (blk_below (g := gb653) (o := .cells #[.int .i64 t649, .slice Ao12 t650.length co12] 26 (0, 0)) (by (with_reducible repeat (first | refine blk_drewN ?_ _ | refine blk_drew ?_ | refine blk_alloc ?_ _)); exact BK653.out) hb)
         have n5_ := Aside0.mk (blk_below (g := gb659) (o := .cells #[.int .i64 t654, .slice Ao17 t655.length co17] 26 (0, 0)) (by (with_reducible repeat (first | refine blk_drewN ?_ _ | refine blk_drew ?_ | refine blk_alloc ?_ _)); exact BK659.out) hb)
         have n6_ := Aside0.mk (blk_below (g := gb665) (o := .cells #[.int .i64 t660, .slice Ao24 t661.length co24] 26 (0, 0)) (by (with_reducible repeat (first | refine blk_drewN ?_ _ | refine blk_drew ?_ | refine blk_alloc ?_ _)); exact BK665.out) hb)
         have n7_ := Aside0.mk (blk_below (g := gb672) (o := .cells #[.int .i64 t667, .slice Ao46 t668.length co46] 26 (0, 0)) (by (with_reducible repeat (first | refine blk_drewN ?_ _ | refine blk_drew ?_ | refine blk_alloc ?_ _)); exact BK672.out) hb)
         have n8_ := Aside0.mk (below_step (by repeat (first | (with_reducible first | exact HB.out | apply below_alloc | apply pw_below_drewN | apply below_drew1 | refine below_set ?_ GE653.out | refine below_set ?_ GE659.out | refine below_set ?_ GE665.out | refine below_set ?_ GE672.out) | exact HB.out)) hb)
         clear HO_654001
         clear HO_660001
         clear HO_666001
         clear HO670
         clear BK653
         clear BK659
         clear BK665
         clear BK672
         clear HB
         have HO_654001 := n0_
         have HO_660001 := n1_
         have HO_666001 := n2_
         have HO670 := n3_
         have BK653 := n4_
         have BK659 := n5_
         have BK665 := n6_
         have BK672 := n7_
         have HB := n8_
         clear n0_ n1_ n2_ n3_ n4_ n5_ n6_ n7_ n8_
         (try clear hb)
         (try clear hb2)
         (try clear hk)
         (try clear hi)
         refine hK.out _ _ ⟨(blk_cell BK672.out 0).trans rfl, (blk_cell BK672.out 1).trans rfl, (blk_cell BK653.out 0).trans rfl, (blk_cell BK653.out 1).trans rfl, (blk_cell BK659.out 0).trans rfl, (blk_cell BK659.out 1).trans rfl⟩ (fun hHeld => ?_)
         clear hK K
         refine norm_ (a' := ?_) ?_ ?_
         rotate_left
         ·show Act.put _ (some 63) _ = _
          simp only [Act.put, L_,M_,N_, i64_w, i32_w]
          rfl
         refine one_ (i := 12) (N := some 65) #[T,T,T,T,T,T,T,T,T,T,T,T,T,F,F] rfl rfl (one_of HT_.out (by kernel_rfl)) (by decide) (fun K hK => ?_)
         refine goes_ Tryd.func32 (by kernel_rfl) rfl #[.agg #[.int .i64 t654, .slice Ao17 t655.length co17]] (by rfl) rfl rfl (by (try simp only [List.map_toArray, List.map_cons, List.map_nil]); first | done | rfl | (simp only [List.length_drop, List.length_take]; rfl)) ?_
         with_reducible refine (impl_IsOrder.calls kj7 t654 _ _ t655 t675 _ ?side1 ?side2 ?side3 A51.out).mono ?_
         (case side1 => repeat (first | exact (Kd.R_reads' HO_660001.out).2.2 | (with_reducible refine Kd.C_alloc ?_ _) | (with_reducible refine Kd.C_drewN ?_ _) | (with_reducible refine Kd.C_drew ?_)))
         (case side2 => exact (Kd.R_reads' HO_660001.out).2.1)
         (case side3 => first | exact HT.out | exact HT.out.below (by repeat (first | (with_reducible first | exact HB.out | apply below_alloc | apply pw_below_drewN | apply below_drew1 | refine below_set ?_ GE653.out | refine below_set ?_ GE659.out | refine below_set ?_ GE665.out | refine below_set ?_ GE672.out) | exact HB.out)) | (repeat (first | exact HT.out | apply TabOK.drewN | apply TabOK.drew | apply TabOK.alloc)))
         rintro e w56 ⟨rfl, hb⟩
         refine ⟨_, rfl, ?_⟩
         have n0_ := Aside0.mk (Kd.R_below (by (with_reducible repeat (first | apply Kd.R_alloc | apply Kd.R_drewN | apply Kd.R_drew)); exact HO_654001.out) hb)
         have n1_ := Aside0.mk (Kd.R_below (by (with_reducible repeat (first | apply Kd.R_alloc | apply Kd.R_drewN | apply Kd.R_drew)); exact HO_660001.out) hb)
         have n2_ := Aside0.mk (Kd.R_below (by (with_reducible repeat (first | apply Kd.R_alloc | apply Kd.R_drewN | apply Kd.R_drew)); exact HO_666001.out) hb)
         have n3_ := Aside0.mk (Kd.R_below (by (with_reducible repeat (first | apply Kd.R_alloc | apply Kd.R_drewN | apply Kd.R_drew)); exact HO670.out) hb)
         have n4_ := Aside0.mk (blk_below (g := gb653) (o := .cells #[.int .i64 t649, .slice Ao12 t650.length co12] 26 (0, 0)) (by (with_reducible repeat (first | refine blk_drewN ?_ _ | refine blk_drew ?_ | refine blk_alloc ?_ _)); exact BK653.out) hb)
         have n5_ := Aside0.mk (blk_below (g := gb659) (o := .cells #[.int .i64 t654, .slice Ao17 t655.length co17] 26 (0, 0)) (by (with_reducible repeat (first | refine blk_drewN ?_ _ | refine blk_drew ?_ | refine blk_alloc ?_ _)); exact BK659.out) hb)
         have n6_ := Aside0.mk (blk_below (g := gb665) (o := .cells #[.int .i64 t660, .slice Ao24 t661.length co24] 26 (0, 0)) (by (with_reducible repeat (first | refine blk_drewN ?_ _ | refine blk_drew ?_ | refine blk_alloc ?_ _)); exact BK665.out) hb)
         have n7_ := Aside0.mk (blk_below (g := gb672) (o := .cells #[.int .i64 t667, .slice Ao46 t668.length co46] 26 (0, 0)) (by (with_reducible repeat (first | refine blk_drewN ?_ _ | refine blk_drew ?_ | refine blk_alloc ?_ _)); exact BK672.out) hb)
         have n8_ := Aside0.mk (below_step (by repeat (first | (with_reducible first | exact HB.out | apply below_alloc | apply pw_below_drewN | apply below_drew1 | refine below_set ?_ GE653.out | refine below_set ?_ GE659.out | refine below_set ?_ GE665.out | refine below_set ?_ GE672.out) | exact HB.out)) hb)
         clear HO_654001
         clear HO_660001
         clear HO_666001
         clear HO670
         clear BK653
         clear BK659
         clear BK665
         clear BK672
         clear HB
         have HO_654001 := n0_
         have HO_660001 := n1_
         have HO_666001 := n2_
         have HO670 := n3_
         have BK653 := n4_
         have BK659 := n5_
         have BK665 := n6_
         have BK672 := n7_
         have HB := n8_
         clear n0_ n1_ n2_ n3_ n4_ n5_ n6_ n7_ n8_
         (try clear hb)
         (try clear hb2)
         (try clear hk)
         (try clear hi)
         refine hK.out _ _ ⟨(blk_cell BK672.out 0).trans rfl, (blk_cell BK672.out 1).trans rfl, (blk_cell BK653.out 0).trans rfl, (blk_cell BK653.out 1).trans rfl, (blk_cell BK659.out 0).trans rfl, (blk_cell BK659.out 1).trans rfl⟩ (fun hHeld => ?_)
         clear hK K
         refine norm_ (a' := ?_) ?_ ?_
         rotate_left
         ·show Act.put _ (some 65) _ = _
          simp only [Act.put, L_,M_,N_, i64_w, i32_w]
          rfl
         refine pure_ (i := 13) (N := some 66) (v := ?_) (a' := ?_) #[T,T,T,T,T,T,T,T,T,T,T,T,T,T,F] rfl rfl (any_of HT_.out (by kernel_rfl)) (fun _ _ _ h => h) (Or.inl ⟨by rfl, ?_⟩) ?_ ?_
         rotate_left;·intro w';go_simp;with_reducible rfl
         rotate_left;·simp only [Act.put, L_,M_,N_, i64_w, i32_w];rfl
         refine pure_ (i := 14) (N := some 67) (v := ?_) (a' := ?_) #[T,T,T,T,T,T,T,T,T,T,T,T,T,T,T] rfl rfl (any_of HT_.out (by kernel_rfl)) (fun _ _ _ h => h) (Or.inl ⟨by rfl, ?_⟩) ?_ ?_
         rotate_left;·intro w';go_simp;with_reducible rfl
         rotate_left;·simp only [Act.put, L_,M_,N_, i64_w, i32_w];rfl
         refine done_ (done_of HT_.out (by kernel_rfl)) ?_
         try go_wp2
         go_meet
         case rel => exact ⟨_, ((t674 != t675)), (by first | rfl | (simp; done) | (simp [*]; done)), H', ⟨by have := HJ7.out; first | omega | exact Nat.le_refl _⟩, ⟨by (with_reducible repeat (first | apply Kd.R_alloc | apply Kd.R_drewN | apply Kd.R_drew)); exact HO_654001.out⟩, ⟨by (with_reducible repeat (first | apply Kd.R_alloc | apply Kd.R_drewN | apply Kd.R_drew)); exact HO_660001.out⟩, ⟨by (with_reducible repeat (first | apply Kd.R_alloc | apply Kd.R_drewN | apply Kd.R_drew)); exact HO_666001.out⟩, ⟨by (with_reducible repeat (first | apply Kd.R_alloc | apply Kd.R_drewN | apply Kd.R_drew)); exact HO670.out⟩, ⟨by (with_reducible repeat (first | refine blk_drewN ?_ _ | refine blk_drew ?_ | refine blk_alloc ?_ _)); exact BK653.out⟩, ⟨by (with_reducible repeat (first | refine blk_drewN ?_ _ | refine blk_drew ?_ | refine blk_alloc ?_ _)); exact BK659.out⟩, ⟨by (with_reducible repeat (first | refine blk_drewN ?_ _ | refine blk_drew ?_ | refine blk_alloc ?_ _)); exact BK665.out⟩, ⟨by (with_reducible repeat (first | refine blk_drewN ?_ _ | refine blk_drew ?_ | refine blk_alloc ?_ _)); exact BK672.out⟩, ⟨by repeat (first | (with_reducible first | exact HB.out | apply below_alloc | apply pw_below_drewN | apply below_drew1 | refine below_set ?_ GE653.out | refine below_set ?_ GE659.out | refine below_set ?_ GE665.out | refine below_set ?_ GE672.out) | exact HB.out)⟩⟩
        ·replace c49 := Bool.eq_false_iff.mpr c49
         subst c49
         have H1 : (laws_FnMirrors.j1 kj7 true t649 t650 t654 t655) = some r := by rw [if_neg (show ¬ (false = true) by decide)] at H; exact H
         clear H
         have H := H1
         clear H1
         have H' := Aside0.mk H
         clear H
         try go_wp2
         have n0_ : Aside0 (Kd.R (Kd.int .i64) 3 ((w41.setCell ⟨gb672, 0, none⟩ (.int .i64 t667)).setCell ⟨gb672, 1, none⟩ (.slice Ao46 t668.length co46)) w.heap.size (fun k_ => some k_ ≠ (.slice Ao17 t655.length co17 : Value).ownBlock ∧ some k_ ≠ (.slice Ao24 t661.length co24 : Value).ownBlock ∧ some k_ ≠ (.slice Ao46 t668.length co46 : Value).ownBlock) (.slice Ao12 t650.length co12) t650) := ⟨by (with_reducible repeat (first | apply Kd.R_alloc | apply Kd.R_drewN | apply Kd.R_drew)); exact Kd.R_mono (Kd.R_far (p := ⟨gb672, 1, none⟩) (Kd.R_far (p := ⟨gb672, 0, none⟩) (Kd.R_types HO_654001.out BK672.out (by decide)) (fun _ hk => hk.2) (.int .i64 t667)) (fun _ hk => hk.2) (.slice Ao46 t668.length co46)) (fun _ hk => ⟨hk.1.1.1, ⟨hk.1.1.2, hk.1.2⟩⟩)⟩
         have n1_ : Aside0 (Kd.R (Kd.int .i64) 3 ((w41.setCell ⟨gb672, 0, none⟩ (.int .i64 t667)).setCell ⟨gb672, 1, none⟩ (.slice Ao46 t668.length co46)) w.heap.size (fun k_ => some k_ ≠ (.slice Ao12 t650.length co12 : Value).ownBlock ∧ some k_ ≠ (.slice Ao24 t661.length co24 : Value).ownBlock ∧ some k_ ≠ (.slice Ao46 t668.length co46 : Value).ownBlock) (.slice Ao17 t655.length co17) t655) := ⟨by (with_reducible repeat (first | apply Kd.R_alloc | apply Kd.R_drewN | apply Kd.R_drew)); exact Kd.R_mono (Kd.R_far (p := ⟨gb672, 1, none⟩) (Kd.R_far (p := ⟨gb672, 0, none⟩) (Kd.R_types HO_660001.out BK672.out (by decide)) (fun _ hk => hk.2) (.int .i64 t667)) (fun _ hk => hk.2) (.slice Ao46 t668.length co46)) (fun _ hk => ⟨hk.1.1.1, ⟨hk.1.1.2, hk.1.2⟩⟩)⟩
         have n2_ : Aside0 (Kd.R (Kd.int .i64) 3 ((w41.setCell ⟨gb672, 0, none⟩ (.int .i64 t667)).setCell ⟨gb672, 1, none⟩ (.slice Ao46 t668.length co46)) w.heap.size (fun k_ => some k_ ≠ (.slice Ao12 t650.length co12 : Value).ownBlock ∧ some k_ ≠ (.slice Ao17 t655.length co17 : Value).ownBlock ∧ some k_ ≠ (.slice Ao46 t668.length co46 : Value).ownBlock) (.slice Ao24 t661.length co24) t661) := ⟨by (with_reducible repeat (first | apply Kd.R_alloc | apply Kd.R_drewN | apply Kd.R_drew)); exact Kd.R_mono (Kd.R_far (p := ⟨gb672, 1, none⟩) (Kd.R_far (p := ⟨gb672, 0, none⟩) (Kd.R_types HO_666001.out BK672.out (by decide)) (fun _ hk => hk.2) (.int .i64 t667)) (fun _ hk => hk.2) (.slice Ao46 t668.length co46)) (fun _ hk => ⟨hk.1.1.1, ⟨hk.1.1.2, hk.1.2⟩⟩)⟩
         have n3_ : Aside0 (Kd.R (Kd.int .i64) 3 ((w41.setCell ⟨gb672, 0, none⟩ (.int .i64 t667)).setCell ⟨gb672, 1, none⟩ (.slice Ao46 t668.length co46)) w.heap.size (fun k_ => some k_ ≠ (.slice Ao12 t650.length co12 : Value).ownBlock ∧ some k_ ≠ (.slice Ao17 t655.length co17 : Value).ownBlock ∧ some k_ ≠ (.slice Ao24 t661.length co24 : Value).ownBlock) (.slice Ao46 t668.length co46) t668) := ⟨by (with_reducible repeat (first | apply Kd.R_alloc | apply Kd.R_drewN | apply Kd.R_drew)); exact Kd.R_mono (Kd.R_far (p := ⟨gb672, 1, none⟩) (Kd.R_far (p := ⟨gb672, 0, none⟩) (Kd.R_types HO670.out BK672.out (by decide)) (fun _ hk => hk.2) (.int .i64 t667)) (fun _ hk => hk.2) (.slice Ao46 t668.length co46)) (fun _ hk => ⟨hk.1.1.1.2, ⟨hk.1.1.2, hk.1.2⟩⟩)⟩
         have n4_ : Aside0 (((w41.setCell ⟨gb672, 0, none⟩ (.int .i64 t667)).setCell ⟨gb672, 1, none⟩ (.slice Ao46 t668.length co46)).heap[gb653]? = some (.cells #[.int .i64 t649, .slice Ao12 t650.length co12] 26 (0, 0))) := ⟨by (with_reducible repeat (first | refine blk_drewN ?_ _ | refine blk_drew ?_ | refine blk_alloc ?_ _)); refine blk_far ?_ NB653_672.out _; (with_reducible repeat (first | refine blk_drewN ?_ _ | refine blk_drew ?_ | refine blk_alloc ?_ _)); refine blk_far ?_ NB653_672.out _; (with_reducible repeat (first | refine blk_drewN ?_ _ | refine blk_drew ?_ | refine blk_alloc ?_ _)); exact BK653.out⟩
         have n5_ : Aside0 (((w41.setCell ⟨gb672, 0, none⟩ (.int .i64 t667)).setCell ⟨gb672, 1, none⟩ (.slice Ao46 t668.length co46)).heap[gb659]? = some (.cells #[.int .i64 t654, .slice Ao17 t655.length co17] 26 (0, 0))) := ⟨by (with_reducible repeat (first | refine blk_drewN ?_ _ | refine blk_drew ?_ | refine blk_alloc ?_ _)); refine blk_far ?_ NB659_672.out _; (with_reducible repeat (first | refine blk_drewN ?_ _ | refine blk_drew ?_ | refine blk_alloc ?_ _)); refine blk_far ?_ NB659_672.out _; (with_reducible repeat (first | refine blk_drewN ?_ _ | refine blk_drew ?_ | refine blk_alloc ?_ _)); exact BK659.out⟩
         have n6_ : Aside0 (((w41.setCell ⟨gb672, 0, none⟩ (.int .i64 t667)).setCell ⟨gb672, 1, none⟩ (.slice Ao46 t668.length co46)).heap[gb665]? = some (.cells #[.int .i64 t660, .slice Ao24 t661.length co24] 26 (0, 0))) := ⟨by (with_reducible repeat (first | refine blk_drewN ?_ _ | refine blk_drew ?_ | refine blk_alloc ?_ _)); refine blk_far ?_ NB665_672.out _; (with_reducible repeat (first | refine blk_drewN ?_ _ | refine blk_drew ?_ | refine blk_alloc ?_ _)); refine blk_far ?_ NB665_672.out _; (with_reducible repeat (first | refine blk_drewN ?_ _ | refine blk_drew ?_ | refine blk_alloc ?_ _)); exact BK665.out⟩
         have n7_ : Aside0 (((w41.setCell ⟨gb672, 0, none⟩ (.int .i64 t667)).setCell ⟨gb672, 1, none⟩ (.slice Ao46 t668.length co46)).heap[gb672]? = some (.cells #[.int .i64 t667, .slice Ao46 t668.length co46] 26 (0, 0))) := ⟨by (with_reducible repeat (first | refine blk_drewN ?_ _ | refine blk_drew ?_ | refine blk_alloc ?_ _)); refine blk_put (cs := #[.int .i64 t667, .slice none 0 0]) ?_ 1 _ rfl; (with_reducible repeat (first | refine blk_drewN ?_ _ | refine blk_drew ?_ | refine blk_alloc ?_ _)); refine blk_put (cs := #[.int .i64 0, .slice none 0 0]) ?_ 0 _ rfl; (with_reducible repeat (first | refine blk_drewN ?_ _ | refine blk_drew ?_ | refine blk_alloc ?_ _)); exact BK672.out⟩
         have n8_ : Aside0 (Below w.heap.size w ((w41.setCell ⟨gb672, 0, none⟩ (.int .i64 t667)).setCell ⟨gb672, 1, none⟩ (.slice Ao46 t668.length co46))) := ⟨by repeat (first | (with_reducible first | exact HB.out | apply below_alloc | apply pw_below_drewN | apply below_drew1 | refine below_set ?_ GE653.out | refine below_set ?_ GE659.out | refine below_set ?_ GE665.out | refine below_set ?_ GE672.out) | exact HB.out)⟩
         (try clear HO_654001)
         (try clear HO_660001)
         (try clear HO_666001)
         (try clear HO670)
         (try clear BK653)
         (try clear BK659)
         (try clear BK665)
         (try clear BK672)
         (try clear HB)
         generalize ((w41.setCell ⟨gb672, 0, none⟩ (.int .i64 t667)).setCell ⟨gb672, 1, none⟩ (.slice Ao46 t668.length co46)) = w57 at n0_ n1_ n2_ n3_ n4_ n5_ n6_ n7_ n8_ ⊢
         have HO_654001 := n0_
         have HO_660001 := n1_
         have HO_666001 := n2_
         have HO670 := n3_
         have BK653 := n4_
         have BK659 := n5_
         have BK665 := n6_
         have BK672 := n7_
         have HB := n8_
         clear n0_ n1_ n2_ n3_ n4_ n5_ n6_ n7_ n8_
         have n0_ := Aside0.mk (Kd.R_drew HO_654001.out)
         have n1_ := Aside0.mk (Kd.R_drew HO_660001.out)
         have n2_ := Aside0.mk (Kd.R_drew HO_666001.out)
         have n3_ := Aside0.mk (Kd.R_drew HO670.out)
         have n4_ := Aside0.mk (blk_drew BK653.out)
         have n5_ := Aside0.mk (blk_drew BK659.out)
         have n6_ := Aside0.mk (blk_drew BK665.out)
         have n7_ := Aside0.mk (blk_drew BK672.out)
         have n8_ := Aside0.mk (below_drew1 HB.out)
         clear HO_654001
         clear HO_660001
         clear HO_666001
         clear HO670
         clear BK653
         clear BK659
         clear BK665
         clear BK672
         clear HB
         have HO_654001 := n0_
         have HO_660001 := n1_
         have HO_666001 := n2_
         have HO670 := n3_
         have BK653 := n4_
         have BK659 := n5_
         have BK665 := n6_
         have BK672 := n7_
         have HB := n8_
         clear n0_ n1_ n2_ n3_ n4_ n5_ n6_ n7_ n8_
         refine start_ (n := 15) (S := fun w' => w'.cell? ⟨gb672, 0, none⟩ = some (.int .i64 t667) ∧ w'.cell? ⟨gb672, 1, none⟩ = some (.slice Ao46 t668.length co46) ∧ w'.cell? ⟨gb653, 0, none⟩ = some (.int .i64 t649) ∧ w'.cell? ⟨gb653, 1, none⟩ = some (.slice Ao12 t650.length co12)) (ds := []) #[F,F,F,F,F,F,F,F,F,F,F,F,F,F,F] (by kernel_rfl) rfl rfl ⟨(blk_cell BK672.out 0).trans rfl, (blk_cell BK672.out 1).trans rfl, (blk_cell BK653.out 0).trans rfl, (blk_cell BK653.out 1).trans rfl⟩ (fun hHeld => ?_); refine with_tabW laws_FnMirrors.tab11 laws_FnMirrors.bits11 (fun HT_ HW_ => ?_)
         generalize w57.drew = w58 at HO_654001 HO_660001 HO_666001 HO670 BK653 BK659 BK665 BK672 HB hHeld ⊢
         refine pure_ (i := 0) (N := some 53) (v := ?_) (a' := ?_) #[T,F,F,F,F,F,F,F,F,F,F,F,F,F,F] rfl rfl (any_of HT_.out (by kernel_rfl)) (fun _ _ _ h => h) (Or.inl ⟨by rfl, ?_⟩) ?_ ?_
         rotate_left;·intro w';go_simp;with_reducible rfl
         rotate_left;·simp only [Act.put, L_,M_,N_, i64_w, i32_w];rfl
         refine pure_ (i := 1) (N := some 54) (v := ?_) (a' := ?_) #[T,T,F,F,F,F,F,F,F,F,F,F,F,F,F] rfl rfl (any_of HT_.out (by kernel_rfl)) (fun _ _ _ h => h) (Or.inl ⟨by rfl, ?_⟩) ?_ ?_
         rotate_left;·intro w';go_simp;with_reducible rfl
         rotate_left;·simp only [Act.put, L_,M_,N_, i64_w, i32_w];rfl
         refine pure_ (i := 2) (N := some 55) (v := ?_) (a' := ?_) #[T,T,T,F,F,F,F,F,F,F,F,F,F,F,F] rfl rfl (any_of HT_.out (by kernel_rfl)) (fun _ _ _ h => h) (Or.inl ⟨by rfl, ?_⟩) ?_ ?_
         rotate_left;·intro w';go_simp;with_reducible rfl
         rotate_left;·simp only [Act.put, L_,M_,N_, i64_w, i32_w];rfl
         refine take_ (i := 3) (N := some 56) (v := ?_) (a' := ?_) #[T,T,T,T,F,F,F,F,F,F,F,F,F,F,F] rfl rfl (take_ofW HT_.out HW_.out (by kernel_rfl)) (fun _ _ _ h => h) (Or.inl ⟨by rfl, ?_⟩) hHeld ?_ ?_
         rotate_left
         ·rintro w' ⟨s0, s1, s2, s3⟩
          go_simp
          with_reducible rfl
         rotate_left;·simp only [Act.put, L_,M_,N_, i64_w, i32_w];rfl
         refine take_ (i := 4) (N := some 57) (v := ?_) (a' := ?_) #[T,T,T,T,T,F,F,F,F,F,F,F,F,F,F] rfl rfl (take_ofW HT_.out HW_.out (by kernel_rfl)) (fun _ _ _ h => h) (Or.inl ⟨by rfl, ?_⟩) hHeld ?_ ?_
         rotate_left
         ·rintro w' ⟨s0, s1, s2, s3⟩
          go_simp
          with_reducible rfl
         rotate_left;·simp only [Act.put, L_,M_,N_, i64_w, i32_w];rfl
         refine one_ (i := 5) (N := some 58) #[T,T,T,T,T,T,F,F,F,F,F,F,F,F,F] rfl rfl (one_of HT_.out (by kernel_rfl)) (by decide) (fun K hK => ?_)
         refine goes_ Tryd.func31 (by kernel_rfl) rfl #[.agg #[.int .i64 t667, .slice Ao46 t668.length co46], .agg #[.int .i64 t649, .slice Ao12 t650.length co12]] (by rfl) rfl rfl (by (try simp only [List.map_toArray, List.map_cons, List.map_nil]); first | done | rfl | (simp only [List.length_drop, List.length_take]; rfl)) ?_
         with_reducible refine (laws_pSameOrder.calls kj7 t667 _ _ t668 t649 _ _ t650 false _ ?side1 ?side2 ?side3 ?side4 A48.out).mono ?_
         (case side1 => repeat (first | exact (Kd.R_reads' HO670.out).2.2 | (with_reducible refine Kd.C_alloc ?_ _) | (with_reducible refine Kd.C_drewN ?_ _) | (with_reducible refine Kd.C_drew ?_)))
         (case side2 => exact (Kd.R_reads' HO670.out).2.1)
         (case side3 => repeat (first | exact (Kd.R_reads' HO_654001.out).2.2 | (with_reducible refine Kd.C_alloc ?_ _) | (with_reducible refine Kd.C_drewN ?_ _) | (with_reducible refine Kd.C_drew ?_)))
         (case side4 => exact (Kd.R_reads' HO_654001.out).2.1)
         rintro e w59 ⟨rfl, hb⟩
         refine ⟨_, rfl, ?_⟩
         have n0_ := Aside0.mk (Kd.R_below (by (with_reducible repeat (first | apply Kd.R_alloc | apply Kd.R_drewN | apply Kd.R_drew)); exact HO_654001.out) hb)
         have n1_ := Aside0.mk (Kd.R_below (by (with_reducible repeat (first | apply Kd.R_alloc | apply Kd.R_drewN | apply Kd.R_drew)); exact HO_660001.out) hb)
         have n2_ := Aside0.mk (Kd.R_below (by (with_reducible repeat (first | apply Kd.R_alloc | apply Kd.R_drewN | apply Kd.R_drew)); exact HO_666001.out) hb)
         have n3_ := Aside0.mk (Kd.R_below (by (with_reducible repeat (first | apply Kd.R_alloc | apply Kd.R_drewN | apply Kd.R_drew)); exact HO670.out) hb)
         have n4_ := Aside0.mk (blk_below (g := gb653) (o := .cells #[.int .i64 t649, .slice Ao12 t650.length co12] 26 (0, 0)) (by (with_reducible repeat (first | refine blk_drewN ?_ _ | refine blk_drew ?_ | refine blk_alloc ?_ _)); exact BK653.out) hb)
         have n5_ := Aside0.mk (blk_below (g := gb659) (o := .cells #[.int .i64 t654, .slice Ao17 t655.length co17] 26 (0, 0)) (by (with_reducible repeat (first | refine blk_drewN ?_ _ | refine blk_drew ?_ | refine blk_alloc ?_ _)); exact BK659.out) hb)
         have n6_ := Aside0.mk (blk_below (g := gb665) (o := .cells #[.int .i64 t660, .slice Ao24 t661.length co24] 26 (0, 0)) (by (with_reducible repeat (first | refine blk_drewN ?_ _ | refine blk_drew ?_ | refine blk_alloc ?_ _)); exact BK665.out) hb)
         have n7_ := Aside0.mk (blk_below (g := gb672) (o := .cells #[.int .i64 t667, .slice Ao46 t668.length co46] 26 (0, 0)) (by (with_reducible repeat (first | refine blk_drewN ?_ _ | refine blk_drew ?_ | refine blk_alloc ?_ _)); exact BK672.out) hb)
         have n8_ := Aside0.mk (below_step (by repeat (first | (with_reducible first | exact HB.out | apply below_alloc | apply pw_below_drewN | apply below_drew1 | refine below_set ?_ GE653.out | refine below_set ?_ GE659.out | refine below_set ?_ GE665.out | refine below_set ?_ GE672.out) | exact HB.out)) hb)
         clear HO_654001
         clear HO_660001
         clear HO_666001
         clear HO670
         clear BK653
         clear BK659
         clear BK665
         clear BK672
         clear HB
         have HO_654001 := n0_
         have HO_660001 := n1_
         have HO_666001 := n2_
         have HO670 := n3_
         have BK653 := n4_
         have BK659 := n5_
         have BK665 := n6_
         have BK672 := n7_
         have HB := n8_
         clear n0_ n1_ n2_ n3_ n4_ n5_ n6_ n7_ n8_
         (try clear hb)
         (try clear hb2)
         (try clear hk)
         (try clear hi)
         refine hK.out _ _ ⟨(blk_cell BK672.out 0).trans rfl, (blk_cell BK672.out 1).trans rfl, (blk_cell BK653.out 0).trans rfl, (blk_cell BK653.out 1).trans rfl⟩ (fun hHeld => ?_)
         clear hK K
         refine norm_ (a' := ?_) ?_ ?_
         rotate_left
         ·show Act.put _ (some 58) _ = _
          simp only [Act.put, L_,M_,N_, i64_w, i32_w]
          rfl
         refine pure_ (i := 6) (N := some 59) (v := ?_) (a' := ?_) #[T,T,T,T,T,T,T,F,F,F,F,F,F,F,F] rfl rfl (any_of HT_.out (by kernel_rfl)) (fun _ _ _ h => h) (Or.inl ⟨by rfl, ?_⟩) ?_ ?_
         rotate_left;·intro w';go_simp;with_reducible rfl
         rotate_left;·simp only [Act.put, L_,M_,N_, i64_w, i32_w];rfl
         refine pure_ (i := 7) (N := some 60) (v := ?_) (a' := ?_) #[T,T,T,T,T,T,T,T,F,F,F,F,F,F,F] rfl rfl (any_of HT_.out (by kernel_rfl)) (fun _ _ _ h => h) (Or.inl ⟨by rfl, ?_⟩) ?_ ?_
         rotate_left;·intro w';go_simp;with_reducible rfl
         rotate_left;·simp only [Act.put, L_,M_,N_, i64_w, i32_w];rfl
         refine pure_ (i := 8) (N := some 61) (v := ?_) (a' := ?_) #[T,T,T,T,T,T,T,T,T,F,F,F,F,F,F] rfl rfl (any_of HT_.out (by kernel_rfl)) (fun _ _ _ h => h) (Or.inl ⟨by rfl, ?_⟩) ?_ ?_
         rotate_left;·intro w';go_simp;with_reducible rfl
         rotate_left;·simp only [Act.put, L_,M_,N_, i64_w, i32_w];rfl
         refine pure_ (i := 9) (N := some 62) (v := undef) (a' := ?_) #[T,T,T,T,T,T,T,T,T,T,F,F,F,F,F] rfl rfl (any_of HT_.out (by kernel_rfl)) (fun _ _ _ h => h) (Or.inr ⟨by rfl, rfl⟩) ?_ ?_
         rotate_left;·simp only [Act.put, L_,M_,N_, i64_w, i32_w];rfl
         refine pure_ (i := 10) (N := some 63) (v := undef) (a' := ?_) #[T,T,T,T,T,T,T,T,T,T,T,F,F,F,F] rfl rfl (any_of HT_.out (by kernel_rfl)) (fun _ _ _ h => h) (Or.inr ⟨by rfl, rfl⟩) ?_ ?_
         rotate_left;·simp only [Act.put, L_,M_,N_, i64_w, i32_w];rfl
         refine pure_ (i := 11) (N := some 64) (v := undef) (a' := ?_) #[T,T,T,T,T,T,T,T,T,T,T,T,F,F,F] rfl rfl (any_of HT_.out (by kernel_rfl)) (fun _ _ _ h => h) (Or.inr ⟨by rfl, rfl⟩) ?_ ?_
         rotate_left;·simp only [Act.put, L_,M_,N_, i64_w, i32_w];rfl
         refine pure_ (i := 12) (N := some 65) (v := undef) (a' := ?_) #[T,T,T,T,T,T,T,T,T,T,T,T,T,F,F] rfl rfl (any_of HT_.out (by kernel_rfl)) (fun _ _ _ h => h) (Or.inr ⟨by rfl, rfl⟩) ?_ ?_
         rotate_left;·simp only [Act.put, L_,M_,N_, i64_w, i32_w];rfl
         refine pure_ (i := 13) (N := some 66) (v := undef) (a' := ?_) #[T,T,T,T,T,T,T,T,T,T,T,T,T,T,F] rfl rfl (any_of HT_.out (by kernel_rfl)) (fun _ _ _ h => h) (Or.inr ⟨by rfl, rfl⟩) ?_ ?_
         rotate_left;·simp only [Act.put, L_,M_,N_, i64_w, i32_w];rfl
         refine pure_ (i := 14) (N := some 67) (v := ?_) (a' := ?_) #[T,T,T,T,T,T,T,T,T,T,T,T,T,T,T] rfl rfl (any_of HT_.out (by kernel_rfl)) (fun _ _ _ h => h) (Or.inl ⟨by rfl, ?_⟩) ?_ ?_
         rotate_left;·intro w';go_simp;with_reducible rfl
         rotate_left;·simp only [Act.put, L_,M_,N_, i64_w, i32_w];rfl
         refine done_ (done_of HT_.out (by kernel_rfl)) ?_
         try go_wp2
         go_meet
         case rel => exact ⟨_, (true), (by first | rfl | (simp; done) | (simp [*]; done)), H', ⟨by have := HJ7.out; first | omega | exact Nat.le_refl _⟩, ⟨by (with_reducible repeat (first | apply Kd.R_alloc | apply Kd.R_drewN | apply Kd.R_drew)); exact HO_654001.out⟩, ⟨by (with_reducible repeat (first | apply Kd.R_alloc | apply Kd.R_drewN | apply Kd.R_drew)); exact HO_660001.out⟩, ⟨by (with_reducible repeat (first | apply Kd.R_alloc | apply Kd.R_drewN | apply Kd.R_drew)); exact HO_666001.out⟩, ⟨by (with_reducible repeat (first | apply Kd.R_alloc | apply Kd.R_drewN | apply Kd.R_drew)); exact HO670.out⟩, ⟨by (with_reducible repeat (first | refine blk_drewN ?_ _ | refine blk_drew ?_ | refine blk_alloc ?_ _)); exact BK653.out⟩, ⟨by (with_reducible repeat (first | refine blk_drewN ?_ _ | refine blk_drew ?_ | refine blk_alloc ?_ _)); exact BK659.out⟩, ⟨by (with_reducible repeat (first | refine blk_drewN ?_ _ | refine blk_drew ?_ | refine blk_alloc ?_ _)); exact BK665.out⟩, ⟨by (with_reducible repeat (first | refine blk_drewN ?_ _ | refine blk_drew ?_ | refine blk_alloc ?_ _)); exact BK672.out⟩, ⟨by repeat (first | (with_reducible first | exact HB.out | apply below_alloc | apply pw_below_drewN | apply below_drew1 | refine below_set ?_ GE653.out | refine below_set ?_ GE659.out | refine below_set ?_ GE665.out | refine below_set ?_ GE672.out) | exact HB.out)⟩⟩
       ·replace c47 := Bool.eq_false_iff.mpr c47
        subst c47
        have H1 : (laws_FnMirrors.j1 kj7 true t649 t650 t654 t655) = some r := by rw [if_neg (show ¬ (false = true) by decide)] at H; exact H
        clear H
        have H := H1
        clear H1
        have H' := Aside0.mk H
        clear H
        try go_wp2
        have n0_ : Aside0 (Kd.R (Kd.int .i64) 3 ((w41.setCell ⟨gb672, 0, none⟩ (.int .i64 t667)).setCell ⟨gb672, 1, none⟩ (.slice Ao46 t668.length co46)) w.heap.size (fun k_ => some k_ ≠ (.slice Ao17 t655.length co17 : Value).ownBlock ∧ some k_ ≠ (.slice Ao24 t661.length co24 : Value).ownBlock ∧ some k_ ≠ (.slice Ao46 t668.length co46 : Value).ownBlock) (.slice Ao12 t650.length co12) t650) := ⟨by (with_reducible repeat (first | apply Kd.R_alloc | apply Kd.R_drewN | apply Kd.R_drew)); exact Kd.R_mono (Kd.R_far (p := ⟨gb672, 1, none⟩) (Kd.R_far (p := ⟨gb672, 0, none⟩) (Kd.R_types HO_654001.out BK672.out (by decide)) (fun _ hk => hk.2) (.int .i64 t667)) (fun _ hk => hk.2) (.slice Ao46 t668.length co46)) (fun _ hk => ⟨hk.1.1.1, ⟨hk.1.1.2, hk.1.2⟩⟩)⟩
        have n1_ : Aside0 (Kd.R (Kd.int .i64) 3 ((w41.setCell ⟨gb672, 0, none⟩ (.int .i64 t667)).setCell ⟨gb672, 1, none⟩ (.slice Ao46 t668.length co46)) w.heap.size (fun k_ => some k_ ≠ (.slice Ao12 t650.length co12 : Value).ownBlock ∧ some k_ ≠ (.slice Ao24 t661.length co24 : Value).ownBlock ∧ some k_ ≠ (.slice Ao46 t668.length co46 : Value).ownBlock) (.slice Ao17 t655.length co17) t655) := ⟨by (with_reducible repeat (first | apply Kd.R_alloc | apply Kd.R_drewN | apply Kd.R_drew)); exact Kd.R_mono (Kd.R_far (p := ⟨gb672, 1, none⟩) (Kd.R_far (p := ⟨gb672, 0, none⟩) (Kd.R_types HO_660001.out BK672.out (by decide)) (fun _ hk => hk.2) (.int .i64 t667)) (fun _ hk => hk.2) (.slice Ao46 t668.length co46)) (fun _ hk => ⟨hk.1.1.1, ⟨hk.1.1.2, hk.1.2⟩⟩)⟩
        have n2_ : Aside0 (Kd.R (Kd.int .i64) 3 ((w41.setCell ⟨gb672, 0, none⟩ (.int .i64 t667)).setCell ⟨gb672, 1, none⟩ (.slice Ao46 t668.length co46)) w.heap.size (fun k_ => some k_ ≠ (.slice Ao12 t650.length co12 : Value).ownBlock ∧ some k_ ≠ (.slice Ao17 t655.length co17 : Value).ownBlock ∧ some k_ ≠ (.slice Ao46 t668.length co46 : Value).ownBlock) (.slice Ao24 t661.length co24) t661) := ⟨by (with_reducible repeat (first | apply Kd.R_alloc | apply Kd.R_drewN | apply Kd.R_drew)); exact Kd.R_mono (Kd.R_far (p := ⟨gb672, 1, none⟩) (Kd.R_far (p := ⟨gb672, 0, none⟩) (Kd.R_types HO_666001.out BK672.out (by decide)) (fun _ hk => hk.2) (.int .i64 t667)) (fun _ hk => hk.2) (.slice Ao46 t668.length co46)) (fun _ hk => ⟨hk.1.1.1, ⟨hk.1.1.2, hk.1.2⟩⟩)⟩
        have n3_ : Aside0 (Kd.R (Kd.int .i64) 3 ((w41.setCell ⟨gb672, 0, none⟩ (.int .i64 t667)).setCell ⟨gb672, 1, none⟩ (.slice Ao46 t668.length co46)) w.heap.size (fun k_ => some k_ ≠ (.slice Ao12 t650.length co12 : Value).ownBlock ∧ some k_ ≠ (.slice Ao17 t655.length co17 : Value).ownBlock ∧ some k_ ≠ (.slice Ao24 t661.length co24 : Value).ownBlock) (.slice Ao46 t668.length co46) t668) := ⟨by (with_reducible repeat (first | apply Kd.R_alloc | apply Kd.R_drewN | apply Kd.R_drew)); exact Kd.R_mono (Kd.R_far (p := ⟨gb672, 1, none⟩) (Kd.R_far (p := ⟨gb672, 0, none⟩) (Kd.R_types HO670.out BK672.out (by decide)) (fun _ hk => hk.2) (.int .i64 t667)) (fun _ hk => hk.2) (.slice Ao46 t668.length co46)) (fun _ hk => ⟨hk.1.1.1.2, ⟨hk.1.1.2, hk.1.2⟩⟩)⟩
        have n4_ : Aside0 (((w41.setCell ⟨gb672, 0, none⟩ (.int .i64 t667)).setCell ⟨gb672, 1, none⟩ (.slice Ao46 t668.length co46)).heap[gb653]? = some (.cells #[.int .i64 t649, .slice Ao12 t650.length co12] 26 (0, 0))) := ⟨by (with_reducible repeat (first | refine blk_drewN ?_ _ | refine blk_drew ?_ | refine blk_alloc ?_ _)); refine blk_far ?_ NB653_672.out _; (with_reducible repeat (first | refine blk_drewN ?_ _ | refine blk_drew ?_ | refine blk_alloc ?_ _)); refine blk_far ?_ NB653_672.out _; (with_reducible repeat (first | refine blk_drewN ?_ _ | refine blk_drew ?_ | refine blk_alloc ?_ _)); exact BK653.out⟩
        have n5_ : Aside0 (((w41.setCell ⟨gb672, 0, none⟩ (.int .i64 t667)).setCell ⟨gb672, 1, none⟩ (.slice Ao46 t668.length co46)).heap[gb659]? = some (.cells #[.int .i64 t654, .slice Ao17 t655.length co17] 26 (0, 0))) := ⟨by (with_reducible repeat (first | refine blk_drewN ?_ _ | refine blk_drew ?_ | refine blk_alloc ?_ _)); refine blk_far ?_ NB659_672.out _; (with_reducible repeat (first | refine blk_drewN ?_ _ | refine blk_drew ?_ | refine blk_alloc ?_ _)); refine blk_far ?_ NB659_672.out _; (with_reducible repeat (first | refine blk_drewN ?_ _ | refine blk_drew ?_ | refine blk_alloc ?_ _)); exact BK659.out⟩
        have n6_ : Aside0 (((w41.setCell ⟨gb672, 0, none⟩ (.int .i64 t667)).setCell ⟨gb672, 1, none⟩ (.slice Ao46 t668.length co46)).heap[gb665]? = some (.cells #[.int .i64 t660, .slice Ao24 t661.length co24] 26 (0, 0))) := ⟨by (with_reducible repeat (first | refine blk_drewN ?_ _ | refine blk_drew ?_ | refine blk_alloc ?_ _)); refine blk_far ?_ NB665_672.out _; (with_reducible repeat (first | refine blk_drewN ?_ _ | refine blk_drew ?_ | refine blk_alloc ?_ _)); refine blk_far ?_ NB665_672.out _; (with_reducible repeat (first | refine blk_drewN ?_ _ | refine blk_drew ?_ | refine blk_alloc ?_ _)); exact BK665.out⟩
        have n7_ : Aside0 (((w41.setCell ⟨gb672, 0, none⟩ (.int .i64 t667)).setCell ⟨gb672, 1, none⟩ (.slice Ao46 t668.length co46)).heap[gb672]? = some (.cells #[.int .i64 t667, .slice Ao46 t668.length co46] 26 (0, 0))) := ⟨by (with_reducible repeat (first | refine blk_drewN ?_ _ | refine blk_drew ?_ | refine blk_alloc ?_ _)); refine blk_put (cs := #[.int .i64 t667, .slice none 0 0]) ?_ 1 _ rfl; (with_reducible repeat (first | refine blk_drewN ?_ _ | refine blk_drew ?_ | refine blk_alloc ?_ _)); refine blk_put (cs := #[.int .i64 0, .slice none 0 0]) ?_ 0 _ rfl; (with_reducible repeat (first | refine blk_drewN ?_ _ | refine blk_drew ?_ | refine blk_alloc ?_ _)); exact BK672.out⟩
        have n8_ : Aside0 (Below w.heap.size w ((w41.setCell ⟨gb672, 0, none⟩ (.int .i64 t667)).setCell ⟨gb672, 1, none⟩ (.slice Ao46 t668.length co46))) := ⟨by repeat (first | (with_reducible first | exact HB.out | apply below_alloc | apply pw_below_drewN | apply below_drew1 | refine below_set ?_ GE653.out | refine below_set ?_ GE659.out | refine below_set ?_ GE665.out | refine below_set ?_ GE672.out) | exact HB.out)⟩
        (try clear HO_654001)
        (try clear HO_660001)
        (try clear HO_666001)
        (try clear HO670)
        (try clear BK653)
        (try clear BK659)
        (try clear BK665)
        (try clear BK672)
        (try clear HB)
        generalize ((w41.setCell ⟨gb672, 0, none⟩ (.int .i64 t667)).setCell ⟨gb672, 1, none⟩ (.slice Ao46 t668.length co46)) = w60 at n0_ n1_ n2_ n3_ n4_ n5_ n6_ n7_ n8_ ⊢
        have HO_654001 := n0_
        have HO_660001 := n1_
        have HO_666001 := n2_
        have HO670 := n3_
        have BK653 := n4_
        have BK659 := n5_
        have BK665 := n6_
        have BK672 := n7_
        have HB := n8_
        clear n0_ n1_ n2_ n3_ n4_ n5_ n6_ n7_ n8_
        have n0_ := Aside0.mk (Kd.R_drew HO_654001.out)
        have n1_ := Aside0.mk (Kd.R_drew HO_660001.out)
        have n2_ := Aside0.mk (Kd.R_drew HO_666001.out)
        have n3_ := Aside0.mk (Kd.R_drew HO670.out)
        have n4_ := Aside0.mk (blk_drew BK653.out)
        have n5_ := Aside0.mk (blk_drew BK659.out)
        have n6_ := Aside0.mk (blk_drew BK665.out)
        have n7_ := Aside0.mk (blk_drew BK672.out)
        have n8_ := Aside0.mk (below_drew1 HB.out)
        clear HO_654001
        clear HO_660001
        clear HO_666001
        clear HO670
        clear BK653
        clear BK659
        clear BK665
        clear BK672
        clear HB
        have HO_654001 := n0_
        have HO_660001 := n1_
        have HO_666001 := n2_
        have HO670 := n3_
        have BK653 := n4_
        have BK659 := n5_
        have BK665 := n6_
        have BK672 := n7_
        have HB := n8_
        clear n0_ n1_ n2_ n3_ n4_ n5_ n6_ n7_ n8_
        refine start_ (n := 15) (S := fun w' => True) (ds := []) #[F,F,F,F,F,F,F,F,F,F,F,F,F,F,F] (by kernel_rfl) rfl rfl trivial (fun hHeld => ?_); refine with_tabW laws_FnMirrors.tab11 laws_FnMirrors.bits11 (fun HT_ HW_ => ?_)
        generalize w60.drew = w61 at HO_654001 HO_660001 HO_666001 HO670 BK653 BK659 BK665 BK672 HB hHeld ⊢
        refine pure_ (i := 0) (N := some 53) (v := ?_) (a' := ?_) #[T,F,F,F,F,F,F,F,F,F,F,F,F,F,F] rfl rfl (any_of HT_.out (by kernel_rfl)) (fun _ _ _ h => h) (Or.inl ⟨by rfl, ?_⟩) ?_ ?_
        rotate_left;·intro w';go_simp;with_reducible rfl
        rotate_left;·simp only [Act.put, L_,M_,N_, i64_w, i32_w];rfl
        refine pure_ (i := 1) (N := some 54) (v := ?_) (a' := ?_) #[T,T,F,F,F,F,F,F,F,F,F,F,F,F,F] rfl rfl (any_of HT_.out (by kernel_rfl)) (fun _ _ _ h => h) (Or.inl ⟨by rfl, ?_⟩) ?_ ?_
        rotate_left;·intro w';go_simp;with_reducible rfl
        rotate_left;·simp only [Act.put, L_,M_,N_, i64_w, i32_w];rfl
        refine pure_ (i := 2) (N := some 55) (v := ?_) (a' := ?_) #[T,T,T,F,F,F,F,F,F,F,F,F,F,F,F] rfl rfl (any_of HT_.out (by kernel_rfl)) (fun _ _ _ h => h) (Or.inl ⟨by rfl, ?_⟩) ?_ ?_
        rotate_left;·intro w';go_simp;with_reducible rfl
        rotate_left;·simp only [Act.put, L_,M_,N_, i64_w, i32_w];rfl
        refine pure_ (i := 3) (N := some 56) (v := undef) (a' := ?_) #[T,T,T,T,F,F,F,F,F,F,F,F,F,F,F] rfl rfl (any_of HT_.out (by kernel_rfl)) (fun _ _ _ h => h) (Or.inr ⟨by rfl, rfl⟩) ?_ ?_
        rotate_left;·simp only [Act.put, L_,M_,N_, i64_w, i32_w];rfl
        refine pure_ (i := 4) (N := some 57) (v := undef) (a' := ?_) #[T,T,T,T,T,F,F,F,F,F,F,F,F,F,F] rfl rfl (any_of HT_.out (by kernel_rfl)) (fun _ _ _ h => h) (Or.inr ⟨by rfl, rfl⟩) ?_ ?_
        rotate_left;·simp only [Act.put, L_,M_,N_, i64_w, i32_w];rfl
        refine pure_ (i := 5) (N := some 58) (v := undef) (a' := ?_) #[T,T,T,T,T,T,F,F,F,F,F,F,F,F,F] rfl rfl (any_of HT_.out (by kernel_rfl)) (fun _ _ _ h => h) (Or.inr ⟨by rfl, rfl⟩) ?_ ?_
        rotate_left;·simp only [Act.put, L_,M_,N_, i64_w, i32_w];rfl
        refine pure_ (i := 6) (N := some 59) (v := undef) (a' := ?_) #[T,T,T,T,T,T,T,F,F,F,F,F,F,F,F] rfl rfl (any_of HT_.out (by kernel_rfl)) (fun _ _ _ h => h) (Or.inr ⟨by rfl, rfl⟩) ?_ ?_
        rotate_left;·simp only [Act.put, L_,M_,N_, i64_w, i32_w];rfl
        refine pure_ (i := 7) (N := some 60) (v := ?_) (a' := ?_) #[T,T,T,T,T,T,T,T,F,F,F,F,F,F,F] rfl rfl (any_of HT_.out (by kernel_rfl)) (fun _ _ _ h => h) (Or.inl ⟨by rfl, ?_⟩) ?_ ?_
        rotate_left;·intro w';go_simp;with_reducible rfl
        rotate_left;·simp only [Act.put, L_,M_,N_, i64_w, i32_w];rfl
        refine pure_ (i := 8) (N := some 61) (v := ?_) (a' := ?_) #[T,T,T,T,T,T,T,T,T,F,F,F,F,F,F] rfl rfl (any_of HT_.out (by kernel_rfl)) (fun _ _ _ h => h) (Or.inl ⟨by rfl, ?_⟩) ?_ ?_
        rotate_left;·intro w';go_simp;with_reducible rfl
        rotate_left;·simp only [Act.put, L_,M_,N_, i64_w, i32_w];rfl
        refine pure_ (i := 9) (N := some 62) (v := undef) (a' := ?_) #[T,T,T,T,T,T,T,T,T,T,F,F,F,F,F] rfl rfl (any_of HT_.out (by kernel_rfl)) (fun _ _ _ h => h) (Or.inr ⟨by rfl, rfl⟩) ?_ ?_
        rotate_left;·simp only [Act.put, L_,M_,N_, i64_w, i32_w];rfl
        refine pure_ (i := 10) (N := some 63) (v := undef) (a' := ?_) #[T,T,T,T,T,T,T,T,T,T,T,F,F,F,F] rfl rfl (any_of HT_.out (by kernel_rfl)) (fun _ _ _ h => h) (Or.inr ⟨by rfl, rfl⟩) ?_ ?_
        rotate_left;·simp only [Act.put, L_,M_,N_, i64_w, i32_w];rfl
        refine pure_ (i := 11) (N := some 64) (v := undef) (a' := ?_) #[T,T,T,T,T,T,T,T,T,T,T,T,F,F,F] rfl rfl (any_of HT_.out (by kernel_rfl)) (fun _ _ _ h => h) (Or.inr ⟨by rfl, rfl⟩) ?_ ?_
        rotate_left;·simp only [Act.put, L_,M_,N_, i64_w, i32_w];rfl
        refine pure_ (i := 12) (N := some 65) (v := undef) (a' := ?_) #[T,T,T,T,T,T,T,T,T,T,T,T,T,F,F] rfl rfl (any_of HT_.out (by kernel_rfl)) (fun _ _ _ h => h) (Or.inr ⟨by rfl, rfl⟩) ?_ ?_
        rotate_left;·simp only [Act.put, L_,M_,N_, i64_w, i32_w];rfl
        refine pure_ (i := 13) (N := some 66) (v := undef) (a' := ?_) #[T,T,T,T,T,T,T,T,T,T,T,T,T,T,F] rfl rfl (any_of HT_.out (by kernel_rfl)) (fun _ _ _ h => h) (Or.inr ⟨by rfl, rfl⟩) ?_ ?_
        rotate_left;·simp only [Act.put, L_,M_,N_, i64_w, i32_w];rfl
        refine pure_ (i := 14) (N := some 67) (v := ?_) (a' := ?_) #[T,T,T,T,T,T,T,T,T,T,T,T,T,T,T] rfl rfl (any_of HT_.out (by kernel_rfl)) (fun _ _ _ h => h) (Or.inl ⟨by rfl, ?_⟩) ?_ ?_
        rotate_left;·intro w';go_simp;with_reducible rfl
        rotate_left;·simp only [Act.put, L_,M_,N_, i64_w, i32_w];rfl
        refine done_ (done_of HT_.out (by kernel_rfl)) ?_
        try go_wp2
        go_meet
        case rel => exact ⟨_, (true), (by first | rfl | (simp; done) | (simp [*]; done)), H', ⟨by have := HJ7.out; first | omega | exact Nat.le_refl _⟩, ⟨by (with_reducible repeat (first | apply Kd.R_alloc | apply Kd.R_drewN | apply Kd.R_drew)); exact HO_654001.out⟩, ⟨by (with_reducible repeat (first | apply Kd.R_alloc | apply Kd.R_drewN | apply Kd.R_drew)); exact HO_660001.out⟩, ⟨by (with_reducible repeat (first | apply Kd.R_alloc | apply Kd.R_drewN | apply Kd.R_drew)); exact HO_666001.out⟩, ⟨by (with_reducible repeat (first | apply Kd.R_alloc | apply Kd.R_drewN | apply Kd.R_drew)); exact HO670.out⟩, ⟨by (with_reducible repeat (first | refine blk_drewN ?_ _ | refine blk_drew ?_ | refine blk_alloc ?_ _)); exact BK653.out⟩, ⟨by (with_reducible repeat (first | refine blk_drewN ?_ _ | refine blk_drew ?_ | refine blk_alloc ?_ _)); exact BK659.out⟩, ⟨by (with_reducible repeat (first | refine blk_drewN ?_ _ | refine blk_drew ?_ | refine blk_alloc ?_ _)); exact BK665.out⟩, ⟨by (with_reducible repeat (first | refine blk_drewN ?_ _ | refine blk_drew ?_ | refine blk_alloc ?_ _)); exact BK672.out⟩, ⟨by repeat (first | (with_reducible first | exact HB.out | apply below_alloc | apply pw_below_drewN | apply below_drew1 | refine below_set ?_ GE653.out | refine below_set ?_ GE659.out | refine below_set ?_ GE665.out | refine below_set ?_ GE672.out) | exact HB.out)⟩⟩
      case rest =>
       clear HC36
       try clear p2
       try clear c3
       try clear c4
       try clear c31
       try clear c32
       try clear c47
       try clear c49
       obtain ⟨kq, x67_35, rfl, HA, HJ35, HO_654001, HO_660001, HO_666001, HO_673001, BK653, BK659, BK665, BK672, HB⟩ := hcut
       cases kq with
       | zero => exact absurd HA.out (by simp [laws_FnMirrors.j1])
       | succ kj35 =>
        have H := HA.out
        clear HA
        simp only [laws_FnMirrors.j1] at H
        by_cases c62 : x67_35 = true
        ·subst c62
         have H1 : (some false) = some r := by rw [if_pos rfl] at H; exact H
         clear H
         have H := H1
         clear H1
         obtain rfl := Option.some.inj H
         go_wp2
         go_ret
         exact ⟨by first | rfl | (simp [errW_none, errW_some] <;> rfl) | (simp [*, errW_none, errW_some] <;> rfl), by repeat (first | (with_reducible first | exact HB.out | apply below_alloc | apply pw_below_drewN | apply below_drew1 | refine below_set ?_ GE653.out | refine below_set ?_ GE659.out | refine below_set ?_ GE665.out | refine below_set ?_ GE672.out) | exact HB.out)⟩
        ·replace c62 := Bool.eq_false_iff.mpr c62
         subst c62
         have H1 : (laws_FnMirrors.l0 kj35 (t650.length : Int) 0 t649 t650 t654 t655) = some r := by rw [if_neg (show ¬ (false = true) by decide)] at H; exact H
         clear H
         have H := H1
         clear H1
         have H' := Aside0.mk H
         clear H
         have hnb63 := NB653_659.out
         have hnc63 := NB659_653.out
         have hnb64 := NB653_665.out
         have hnc64 := NB665_653.out
         have hnb65 := NB653_672.out
         have hnc65 := NB672_653.out
         have hcz66_0 : wc.cell? ⟨gb653, 0, none⟩ = some (.int .i64 t649) := (blk_cell BK653.out 0).trans rfl
         have hcz66_1 : wc.cell? ⟨gb653, 1, none⟩ = some (.slice Ao12 t650.length co12) := (blk_cell BK653.out 1).trans rfl
         have hfz66_0 := blk_frozen BK653.out 0
         have hfz66_1 := blk_frozen BK653.out 1
         go_wp2
         go_loopg [71] kj35 (fun kq v71 w' => ∃ (x71_3 : Int), v71 = .int .i64 x71_3 ∧ Aside0 (laws_FnMirrors.l0 kq (t650.length : Int) x71_3 t649 t650 t654 t655 = some r) ∧ Aside0 (kq ≤ kj35) ∧ Aside0 (Kd.R (Kd.int .i64) 3 w' w.heap.size (fun k_ => some k_ ≠ ((.slice Ao17 t655.length co17) : Value).ownBlock ∧ some k_ ≠ ((.slice Ao24 t661.length co24) : Value).ownBlock ∧ some k_ ≠ ((.slice Ao46 t668.length co46) : Value).ownBlock) (.slice Ao12 t650.length co12) t650) ∧ Aside0 (Kd.R (Kd.int .i64) 3 w' w.heap.size (fun k_ => some k_ ≠ ((.slice Ao12 t650.length co12) : Value).ownBlock ∧ some k_ ≠ ((.slice Ao24 t661.length co24) : Value).ownBlock ∧ some k_ ≠ ((.slice Ao46 t668.length co46) : Value).ownBlock) (.slice Ao17 t655.length co17) t655) ∧ Aside0 (Kd.R (Kd.int .i64) 3 w' w.heap.size (fun k_ => some k_ ≠ ((.slice Ao12 t650.length co12) : Value).ownBlock ∧ some k_ ≠ ((.slice Ao17 t655.length co17) : Value).ownBlock ∧ some k_ ≠ ((.slice Ao46 t668.length co46) : Value).ownBlock) (.slice Ao24 t661.length co24) t661) ∧ Aside0 (Kd.R (Kd.int .i64) 3 w' w.heap.size (fun k_ => some k_ ≠ ((.slice Ao12 t650.length co12) : Value).ownBlock ∧ some k_ ≠ ((.slice Ao17 t655.length co17) : Value).ownBlock ∧ some k_ ≠ ((.slice Ao24 t661.length co24) : Value).ownBlock) (.slice Ao46 t668.length co46) t668) ∧ Aside0 (w'.heap[gb653]? = some (.cells #[.int .i64 t649, (.slice Ao12 t650.length co12)] 26 (0, 0))) ∧ Aside0 (w'.heap[gb659]? = some (.cells #[.int .i64 t654, (.slice Ao17 t655.length co17)] 26 (0, 0))) ∧ Aside0 (w'.heap[gb665]? = some (.cells #[.int .i64 t660, (.slice Ao24 t661.length co24)] 26 (0, 0))) ∧ Aside0 (w'.heap[gb672]? = some (.cells #[.int .i64 t667, (.slice Ao46 t668.length co46)] 26 (0, 0))) ∧ Aside0 (Below w.heap.size w w'))
         case atStart => exact ⟨(0), (by first | rfl | (simp; done) | (simp [*]; done)), H', ⟨Nat.le_refl _⟩, ⟨by (with_reducible repeat (first | apply Kd.R_alloc | apply Kd.R_drewN | apply Kd.R_drew)); exact HO_654001.out⟩, ⟨by (with_reducible repeat (first | apply Kd.R_alloc | apply Kd.R_drewN | apply Kd.R_drew)); exact HO_660001.out⟩, ⟨by (with_reducible repeat (first | apply Kd.R_alloc | apply Kd.R_drewN | apply Kd.R_drew)); exact HO_666001.out⟩, ⟨by (with_reducible repeat (first | apply Kd.R_alloc | apply Kd.R_drewN | apply Kd.R_drew)); exact HO_673001.out⟩, ⟨by (with_reducible repeat (first | refine blk_drewN ?_ _ | refine blk_drew ?_ | refine blk_alloc ?_ _)); exact BK653.out⟩, ⟨by (with_reducible repeat (first | refine blk_drewN ?_ _ | refine blk_drew ?_ | refine blk_alloc ?_ _)); exact BK659.out⟩, ⟨by (with_reducible repeat (first | refine blk_drewN ?_ _ | refine blk_drew ?_ | refine blk_alloc ?_ _)); exact BK665.out⟩, ⟨by (with_reducible repeat (first | refine blk_drewN ?_ _ | refine blk_drew ?_ | refine blk_alloc ?_ _)); exact BK672.out⟩, ⟨by repeat (first | (with_reducible first | exact HB.out | apply below_alloc | apply pw_below_drewN | apply below_drew1 | refine below_set ?_ GE653.out | refine below_set ?_ GE659.out | refine below_set ?_ GE665.out | refine below_set ?_ GE672.out) | exact HB.out)⟩⟩
         case round =>
          clear H'
          try clear p2
          try clear c3
          try clear c4
          try clear c6
          try clear c31
          try clear c32
          try clear c47
          try clear c49
          try clear c62
          try clear c63
          try clear c64
          try clear c65
          try clear hcz66_0
          try clear hcz66_1
          try clear hfz66_0
          try clear hfz66_1
          try clear p2
          obtain ⟨x71_3, rfl, HA, HK3, HO_654001, HO_660001, HO_666001, HO_673001, BK653, BK659, BK665, BK672, HB⟩ := hrel
          cases gk with
          | zero => exact absurd HA.out (by simp [laws_FnMirrors.l0])
          | succ k3 =>
           have H := HA.out
           clear HA
           simp only [laws_FnMirrors.l0] at H
           by_cases c67 : x71_3 < (t650.length : Int)
           ·rw [if_pos c67] at H
            have c67b0 : decide (x71_3 < (t650.length : Int)) = true := decide_eq_true c67
            clear c67
            replace H := Option.bind_eq_some_iff.mp H
            obtain ⟨⟨t676, t677⟩, A680, H⟩ := H
            replace H : ((impl_IndifferentTo.f k3 t649 t650 x71_3).bind fun bt678 => ((impl_IndifferentTo.f k3 t654 t655 x71_3).bind fun bt680 => (if t677 = true then (if bt678.2 = true then (if bt680.2 = true then (if 0 ≤ x71_3 then (if x71_3 < (t655.length : Int) then (if t676 = (rd t655 x71_3) then (if bt678.1 = bt680.1 then ((laws_pIn.f bt678.1 x71_3).bind fun t683 => (laws_FnMirrors.j3 k3 x71_3 t676 bt678.1 (t650.length : Int) x71_3 t683 t649 t650 t654 t655)) else (laws_FnMirrors.j3 k3 x71_3 t676 bt678.1 (t650.length : Int) x71_3 true t649 t650 t654 t655)) else (laws_FnMirrors.j3 k3 x71_3 t676 bt678.1 (t650.length : Int) x71_3 true t649 t650 t654 t655)) else (none)) else (none)) else (laws_FnMirrors.j3 k3 x71_3 t676 bt678.1 (t650.length : Int) x71_3 true t649 t650 t654 t655)) else (laws_FnMirrors.j3 k3 x71_3 t676 bt678.1 (t650.length : Int) x71_3 true t649 t650 t654 t655)) else (laws_FnMirrors.j3 k3 x71_3 t676 bt678.1 (t650.length : Int) x71_3 true t649 t650 t654 t655)))) = some r := H
            have A68 := Aside0.mk A680
            clear A680
            replace H := Option.bind_eq_some_iff.mp H
            obtain ⟨⟨t678, t679⟩, A690, H⟩ := H
            replace H : ((impl_IndifferentTo.f k3 t654 t655 x71_3).bind fun bt680 => (if t677 = true then (if t679 = true then (if bt680.2 = true then (if 0 ≤ x71_3 then (if x71_3 < (t655.length : Int) then (if t676 = (rd t655 x71_3) then (if t678 = bt680.1 then ((laws_pIn.f t678 x71_3).bind fun t683 => (laws_FnMirrors.j3 k3 x71_3 t676 t678 (t650.length : Int) x71_3 t683 t649 t650 t654 t655)) else (laws_FnMirrors.j3 k3 x71_3 t676 t678 (t650.length : Int) x71_3 true t649 t650 t654 t655)) else (laws_FnMirrors.j3 k3 x71_3 t676 t678 (t650.length : Int) x71_3 true t649 t650 t654 t655)) else (none)) else (none)) else (laws_FnMirrors.j3 k3 x71_3 t676 t678 (t650.length : Int) x71_3 true t649 t650 t654 t655)) else (laws_FnMirrors.j3 k3 x71_3 t676 t678 (t650.length : Int) x71_3 true t649 t650 t654 t655)) else (laws_FnMirrors.j3 k3 x71_3 t676 t678 (t650.length : Int) x71_3 true t649 t650 t654 t655))) = some r := H
            have A69 := Aside0.mk A690
            clear A690
            replace H := Option.bind_eq_some_iff.mp H
            obtain ⟨⟨t680, t681⟩, A700, H⟩ := H
            replace H : (if t677 = true then (if t679 = true then (if t681 = true then (if 0 ≤ x71_3 then (if x71_3 < (t655.length : Int) then (if t676 = (rd t655 x71_3) then (if t678 = t680 then ((laws_pIn.f t678 x71_3).bind fun t683 => (laws_FnMirrors.j3 k3 x71_3 t676 t678 (t650.length : Int) x71_3 t683 t649 t650 t654 t655)) else (laws_FnMirrors.j3 k3 x71_3 t676 t678 (t650.length : Int) x71_3 true t649 t650 t654 t655)) else (laws_FnMirrors.j3 k3 x71_3 t676 t678 (t650.length : Int) x71_3 true t649 t650 t654 t655)) else (none)) else (none)) else (laws_FnMirrors.j3 k3 x71_3 t676 t678 (t650.length : Int) x71_3 true t649 t650 t654 t655)) else (laws_FnMirrors.j3 k3 x71_3 t676 t678 (t650.length : Int) x71_3 true t649 t650 t654 t655)) else (laws_FnMirrors.j3 k3 x71_3 t676 t678 (t650.length : Int) x71_3 true t649 t650 t654 t655)) = some r := H
            have A70 := Aside0.mk A700
            clear A700
            have HC71 := Aside0.mk H
            clear H
            have hnb72 := NB653_659.out
            have hnc72 := NB659_653.out
            have hnb73 := NB653_665.out
            have hnc73 := NB665_653.out
            have hnb74 := NB653_672.out
            have hnc74 := NB672_653.out
            have hcz75_0 : wr.cell? ⟨gb653, 0, none⟩ = some (.int .i64 t649) := (blk_cell BK653.out 0).trans rfl
            have hcz75_1 : wr.cell? ⟨gb653, 1, none⟩ = some (.slice Ao12 t650.length co12) := (blk_cell BK653.out 1).trans rfl
            have hfz75_0 := blk_frozen BK653.out 0
            have hfz75_1 := blk_frozen BK653.out 1
            go_upto_region 19 with (first | ((with_reducible refine gate_callee (f := 33) rfl ?_); refine goesL_ (some 77) rfl rfl Tryd.func33 (by kernel_rfl) rfl #[.agg #[.int .i64 t649, .slice Ao12 t650.length co12], .int .i64 x71_3] rfl (by (try simp only [List.map_toArray, List.map_cons, List.map_nil]); first | done | rfl | (simp only [List.length_drop, List.length_take]; rfl)) ?_; (with_reducible refine (impl_BelowOf.calls k3 t649 _ _ t650 x71_3 t676 t677 _ ?side1 ?side2 A68.out).mono ?_); (case side1 => repeat (first | exact (Kd.R_reads' HO_654001.out).2.2 | (with_reducible refine Kd.C_alloc ?_ _) | (with_reducible refine Kd.C_drewN ?_ _) | (with_reducible refine Kd.C_drew ?_))); (case side2 => exact (Kd.R_reads' HO_654001.out).2.1); rintro e w76 ⟨rfl, hb⟩; refine ⟨_, rfl, ?_⟩; have n0_ := Aside0.mk (Kd.R_below (by (with_reducible repeat (first | apply Kd.R_alloc | apply Kd.R_drewN | apply Kd.R_drew)); exact HO_654001.out) hb); have n1_ := Aside0.mk (Kd.R_below (by (with_reducible repeat (first | apply Kd.R_alloc | apply Kd.R_drewN | apply Kd.R_drew)); exact HO_660001.out) hb); have n2_ := Aside0.mk (Kd.R_below (by (with_reducible repeat (first | apply Kd.R_alloc | apply Kd.R_drewN | apply Kd.R_drew)); exact HO_666001.out) hb); have n3_ := Aside0.mk (Kd.R_below (by (with_reducible repeat (first | apply Kd.R_alloc | apply Kd.R_drewN | apply Kd.R_drew)); exact HO_673001.out) hb); have n4_ := Aside0.mk (blk_below (g := gb653) (o := .cells #[.int .i64 t649, .slice Ao12 t650.length co12] 26 (0, 0)) (by (with_reducible repeat (first | refine blk_drewN ?_ _ | refine blk_drew ?_ | refine blk_alloc ?_ _)); exact BK653.out) hb); have n5_ := Aside0.mk (blk_below (g := gb659) (o := .cells #[.int .i64 t654, .slice Ao17 t655.length co17] 26 (0, 0)) (by (with_reducible repeat (first | refine blk_drewN ?_ _ | refine blk_drew ?_ | refine blk_alloc ?_ _)); exact BK659.out) hb); have n6_ := Aside0.mk (blk_below (g := gb665) (o := .cells #[.int .i64 t660, .slice Ao24 t661.length co24] 26 (0, 0)) (by (with_reducible repeat (first | refine blk_drewN ?_ _ | refine blk_drew ?_ | refine blk_alloc ?_ _)); exact BK665.out) hb); have n7_ := Aside0.mk (blk_below (g := gb672) (o := .cells #[.int .i64 t667, .slice Ao46 t668.length co46] 26 (0, 0)) (by (with_reducible repeat (first | refine blk_drewN ?_ _ | refine blk_drew ?_ | refine blk_alloc ?_ _)); exact BK672.out) hb); have n8_ := Aside0.mk (below_step (by repeat (first | (with_reducible first | exact HB.out | apply below_alloc | apply pw_below_drewN | apply below_drew1 | refine below_set ?_ GE653.out | refine below_set ?_ GE659.out | refine below_set ?_ GE665.out | refine below_set ?_ GE672.out) | exact HB.out)) hb); clear HO_654001; clear HO_660001; clear HO_666001; clear HO_673001; clear BK653; clear BK659; clear BK665; clear BK672; clear HB; have HO_654001 := n0_; have HO_660001 := n1_; have HO_666001 := n2_; have HO_673001 := n3_; have BK653 := n4_; have BK659 := n5_; have BK665 := n6_; have BK672 := n7_; have HB := n8_; clear n0_ n1_ n2_ n3_ n4_ n5_ n6_ n7_ n8_; (try clear hb); (try clear hb2); (try clear hk); (try clear hi); have hcz77_0 : w76.cell? ⟨gb653, 0, none⟩ = some (.int .i64 t649) := (blk_cell BK653.out 0).trans rfl; have hcz77_1 : w76.cell? ⟨gb653, 1, none⟩ = some (.slice Ao12 t650.length co12) := (blk_cell BK653.out 1).trans rfl; have hfz77_0 := blk_frozen BK653.out 0; have hfz77_1 := blk_frozen BK653.out 1) | ((with_reducible refine gate_callee (f := 34) rfl ?_); refine goesL_ (some 83) rfl rfl Tryd.func34 (by kernel_rfl) rfl #[.agg #[.int .i64 t649, .slice Ao12 t650.length co12], .int .i64 x71_3] rfl (by (try simp only [List.map_toArray, List.map_cons, List.map_nil]); first | done | rfl | (simp only [List.length_drop, List.length_take]; rfl)) ?_; (with_reducible refine (impl_IndifferentTo.calls k3 t649 _ _ t650 x71_3 t678 t679 _ ?side1 ?side2 A69.out).mono ?_); (case side1 => repeat (first | exact (Kd.R_reads' HO_654001.out).2.2 | (with_reducible refine Kd.C_alloc ?_ _) | (with_reducible refine Kd.C_drewN ?_ _) | (with_reducible refine Kd.C_drew ?_))); (case side2 => exact (Kd.R_reads' HO_654001.out).2.1); rintro e w78 ⟨rfl, hb⟩; refine ⟨_, rfl, ?_⟩; have n0_ := Aside0.mk (Kd.R_below (by (with_reducible repeat (first | apply Kd.R_alloc | apply Kd.R_drewN | apply Kd.R_drew)); exact HO_654001.out) hb); have n1_ := Aside0.mk (Kd.R_below (by (with_reducible repeat (first | apply Kd.R_alloc | apply Kd.R_drewN | apply Kd.R_drew)); exact HO_660001.out) hb); have n2_ := Aside0.mk (Kd.R_below (by (with_reducible repeat (first | apply Kd.R_alloc | apply Kd.R_drewN | apply Kd.R_drew)); exact HO_666001.out) hb); have n3_ := Aside0.mk (Kd.R_below (by (with_reducible repeat (first | apply Kd.R_alloc | apply Kd.R_drewN | apply Kd.R_drew)); exact HO_673001.out) hb); have n4_ := Aside0.mk (blk_below (g := gb653) (o := .cells #[.int .i64 t649, .slice Ao12 t650.length co12] 26 (0, 0)) (by (with_reducible repeat (first | refine blk_drewN ?_ _ | refine blk_drew ?_ | refine blk_alloc ?_ _)); exact BK653.out) hb); have n5_ := Aside0.mk (blk_below (g := gb659) (o := .cells #[.int .i64 t654, .slice Ao17 t655.length co17] 26 (0, 0)) (by (with_reducible repeat (first | refine blk_drewN ?_ _ | refine blk_drew ?_ | refine blk_alloc ?_ _)); exact BK659.out) hb); have n6_ := Aside0.mk (blk_below (g := gb665) (o := .cells #[.int .i64 t660, .slice Ao24 t661.length co24] 26 (0, 0)) (by (with_reducible repeat (first | refine blk_drewN ?_ _ | refine blk_drew ?_ | refine blk_alloc ?_ _)); exact BK665.out) hb); have n7_ := Aside0.mk (blk_below (g := gb672) (o := .cells #[.int .i64 t667, .slice Ao46 t668.length co46] 26 (0, 0)) (by (with_reducible repeat (first | refine blk_drewN ?_ _ | refine blk_drew ?_ | refine blk_alloc ?_ _)); exact BK672.out) hb); have n8_ := Aside0.mk (below_step (by repeat (first | (with_reducible first | exact HB.out | apply below_alloc | apply pw_below_drewN | apply below_drew1 | refine below_set ?_ GE653.out | refine below_set ?_ GE659.out | refine below_set ?_ GE665.out | refine below_set ?_ GE672.out) | exact HB.out)) hb); clear HO_654001; clear HO_660001; clear HO_666001; clear HO_673001; clear BK653; clear BK659; clear BK665; clear BK672; clear HB; have HO_654001 := n0_; have HO_660001 := n1_; have HO_666001 := n2_; have HO_673001 := n3_; have BK653 := n4_; have BK659 := n5_; have BK665 := n6_; have BK672 := n7_; have HB := n8_; clear n0_ n1_ n2_ n3_ n4_ n5_ n6_ n7_ n8_; (try clear hb); (try clear hb2); (try clear hk); (try clear hi); have hnb79 := NB659_665.out; have hnc79 := NB665_659.out; have hnb80 := NB659_672.out; have hnc80 := NB672_659.out; have hcz81_0 : w78.cell? ⟨gb659, 0, none⟩ = some (.int .i64 t654) := (blk_cell BK659.out 0).trans rfl; have hcz81_1 : w78.cell? ⟨gb659, 1, none⟩ = some (.slice Ao17 t655.length co17) := (blk_cell BK659.out 1).trans rfl; have hfz81_0 := blk_frozen BK659.out 0; have hfz81_1 := blk_frozen BK659.out 1) | ((with_reducible refine gate_callee (f := 34) rfl ?_); refine goesL_ (some 89) rfl rfl Tryd.func34 (by kernel_rfl) rfl #[.agg #[.int .i64 t654, .slice Ao17 t655.length co17], .int .i64 x71_3] rfl (by (try simp only [List.map_toArray, List.map_cons, List.map_nil]); first | done | rfl | (simp only [List.length_drop, List.length_take]; rfl)) ?_; (with_reducible refine (impl_IndifferentTo.calls k3 t654 _ _ t655 x71_3 t680 t681 _ ?side1 ?side2 A70.out).mono ?_); (case side1 => repeat (first | exact (Kd.R_reads' HO_660001.out).2.2 | (with_reducible refine Kd.C_alloc ?_ _) | (with_reducible refine Kd.C_drewN ?_ _) | (with_reducible refine Kd.C_drew ?_))); (case side2 => exact (Kd.R_reads' HO_660001.out).2.1); rintro e w82 ⟨rfl, hb⟩; refine ⟨_, rfl, ?_⟩; have n0_ := Aside0.mk (Kd.R_below (by (with_reducible repeat (first | apply Kd.R_alloc | apply Kd.R_drewN | apply Kd.R_drew)); exact HO_654001.out) hb); have n1_ := Aside0.mk (Kd.R_below (by (with_reducible repeat (first | apply Kd.R_alloc | apply Kd.R_drewN | apply Kd.R_drew)); exact HO_660001.out) hb); have n2_ := Aside0.mk (Kd.R_below (by (with_reducible repeat (first | apply Kd.R_alloc | apply Kd.R_drewN | apply Kd.R_drew)); exact HO_666001.out) hb); have n3_ := Aside0.mk (Kd.R_below (by (with_reducible repeat (first | apply Kd.R_alloc | apply Kd.R_drewN | apply Kd.R_drew)); exact HO_673001.out) hb); have n4_ := Aside0.mk (blk_below (g := gb653) (o := .cells #[.int .i64 t649, .slice Ao12 t650.length co12] 26 (0, 0)) (by (with_reducible repeat (first | refine blk_drewN ?_ _ | refine blk_drew ?_ | refine blk_alloc ?_ _)); exact BK653.out) hb); have n5_ := Aside0.mk (blk_below (g := gb659) (o := .cells #[.int .i64 t654, .slice Ao17 t655.length co17] 26 (0, 0)) (by (with_reducible repeat (first | refine blk_drewN ?_ _ | refine blk_drew ?_ | refine blk_alloc ?_ _)); exact BK659.out) hb); have n6_ := Aside0.mk (blk_below (g := gb665) (o := .cells #[.int .i64 t660, .slice Ao24 t661.length co24] 26 (0, 0)) (by (with_reducible repeat (first | refine blk_drewN ?_ _ | refine blk_drew ?_ | refine blk_alloc ?_ _)); exact BK665.out) hb); have n7_ := Aside0.mk (blk_below (g := gb672) (o := .cells #[.int .i64 t667, .slice Ao46 t668.length co46] 26 (0, 0)) (by (with_reducible repeat (first | refine blk_drewN ?_ _ | refine blk_drew ?_ | refine blk_alloc ?_ _)); exact BK672.out) hb); have n8_ := Aside0.mk (below_step (by repeat (first | (with_reducible first | exact HB.out | apply below_alloc | apply pw_below_drewN | apply below_drew1 | refine below_set ?_ GE653.out | refine below_set ?_ GE659.out | refine below_set ?_ GE665.out | refine below_set ?_ GE672.out) | exact HB.out)) hb); clear HO_654001; clear HO_660001; clear HO_666001; clear HO_673001; clear BK653; clear BK659; clear BK665; clear BK672; clear HB; have HO_654001 := n0_; have HO_660001 := n1_; have HO_666001 := n2_; have HO_673001 := n3_; have BK653 := n4_; have BK659 := n5_; have BK665 := n6_; have BK672 := n7_; have HB := n8_; clear n0_ n1_ n2_ n3_ n4_ n5_ n6_ n7_ n8_; (try clear hb); (try clear hb2); (try clear hk); (try clear hi)))
            (try simp only [Act.put, L_,M_,N_])
            go_cut [120] (fun v120 wc => ∃ (kq : Nat) (x120_70 : Bool), v120 = .bool x120_70 ∧ Aside0 (laws_FnMirrors.j3 kq x71_3 t676 t678 (t650.length : Int) x71_3 x120_70 t649 t650 t654 t655 = some r) ∧ Aside0 (kq ≤ k3) ∧ Aside0 (Kd.R (Kd.int .i64) 3 wc w.heap.size (fun k_ => some k_ ≠ ((.slice Ao17 t655.length co17) : Value).ownBlock ∧ some k_ ≠ ((.slice Ao24 t661.length co24) : Value).ownBlock ∧ some k_ ≠ ((.slice Ao46 t668.length co46) : Value).ownBlock) (.slice Ao12 t650.length co12) t650) ∧ Aside0 (Kd.R (Kd.int .i64) 3 wc w.heap.size (fun k_ => some k_ ≠ ((.slice Ao12 t650.length co12) : Value).ownBlock ∧ some k_ ≠ ((.slice Ao24 t661.length co24) : Value).ownBlock ∧ some k_ ≠ ((.slice Ao46 t668.length co46) : Value).ownBlock) (.slice Ao17 t655.length co17) t655) ∧ Aside0 (Kd.R (Kd.int .i64) 3 wc w.heap.size (fun k_ => some k_ ≠ ((.slice Ao12 t650.length co12) : Value).ownBlock ∧ some k_ ≠ ((.slice Ao17 t655.length co17) : Value).ownBlock ∧ some k_ ≠ ((.slice Ao46 t668.length co46) : Value).ownBlock) (.slice Ao24 t661.length co24) t661) ∧ Aside0 (Kd.R (Kd.int .i64) 3 wc w.heap.size (fun k_ => some k_ ≠ ((.slice Ao12 t650.length co12) : Value).ownBlock ∧ some k_ ≠ ((.slice Ao17 t655.length co17) : Value).ownBlock ∧ some k_ ≠ ((.slice Ao24 t661.length co24) : Value).ownBlock) (.slice Ao46 t668.length co46) t668) ∧ Aside0 (wc.heap[gb653]? = some (.cells #[.int .i64 t649, (.slice Ao12 t650.length co12)] 26 (0, 0))) ∧ Aside0 (wc.heap[gb659]? = some (.cells #[.int .i64 t654, (.slice Ao17 t655.length co17)] 26 (0, 0))) ∧ Aside0 (wc.heap[gb665]? = some (.cells #[.int .i64 t660, (.slice Ao24 t661.length co24)] 26 (0, 0))) ∧ Aside0 (wc.heap[gb672]? = some (.cells #[.int .i64 t667, (.slice Ao46 t668.length co46)] 26 (0, 0))) ∧ Aside0 (Below w.heap.size w wc))
            case first =>
             have H := HC71.out
             clear HC71
             by_cases c83 : t677 = true
             ·subst c83
              have H1 : (if t679 = true then (if t681 = true then (if 0 ≤ x71_3 then (if x71_3 < (t655.length : Int) then (if t676 = (rd t655 x71_3) then (if t678 = t680 then ((laws_pIn.f t678 x71_3).bind fun t683 => (laws_FnMirrors.j3 k3 x71_3 t676 t678 (t650.length : Int) x71_3 t683 t649 t650 t654 t655)) else (laws_FnMirrors.j3 k3 x71_3 t676 t678 (t650.length : Int) x71_3 true t649 t650 t654 t655)) else (laws_FnMirrors.j3 k3 x71_3 t676 t678 (t650.length : Int) x71_3 true t649 t650 t654 t655)) else (none)) else (none)) else (laws_FnMirrors.j3 k3 x71_3 t676 t678 (t650.length : Int) x71_3 true t649 t650 t654 t655)) else (laws_FnMirrors.j3 k3 x71_3 t676 t678 (t650.length : Int) x71_3 true t649 t650 t654 t655)) = some r := by rw [if_pos rfl] at H; exact H
              clear H
              have H := H1
              clear H1
              by_cases c84 : t679 = true
              ·subst c84
               have H1 : (if t681 = true then (if 0 ≤ x71_3 then (if x71_3 < (t655.length : Int) then (if t676 = (rd t655 x71_3) then (if t678 = t680 then ((laws_pIn.f t678 x71_3).bind fun t683 => (laws_FnMirrors.j3 k3 x71_3 t676 t678 (t650.length : Int) x71_3 t683 t649 t650 t654 t655)) else (laws_FnMirrors.j3 k3 x71_3 t676 t678 (t650.length : Int) x71_3 true t649 t650 t654 t655)) else (laws_FnMirrors.j3 k3 x71_3 t676 t678 (t650.length : Int) x71_3 true t649 t650 t654 t655)) else (none)) else (none)) else (laws_FnMirrors.j3 k3 x71_3 t676 t678 (t650.length : Int) x71_3 true t649 t650 t654 t655)) = some r := by rw [if_pos rfl] at H; exact H
               clear H
               have H := H1
               clear H1
               by_cases c85 : t681 = true
               ·subst c85
                have H1 : (if 0 ≤ x71_3 then (if x71_3 < (t655.length : Int) then (if t676 = (rd t655 x71_3) then (if t678 = t680 then ((laws_pIn.f t678 x71_3).bind fun t683 => (laws_FnMirrors.j3 k3 x71_3 t676 t678 (t650.length : Int) x71_3 t683 t649 t650 t654 t655)) else (laws_FnMirrors.j3 k3 x71_3 t676 t678 (t650.length : Int) x71_3 true t649 t650 t654 t655)) else (laws_FnMirrors.j3 k3 x71_3 t676 t678 (t650.length : Int) x71_3 true t649 t650 t654 t655)) else (none)) else (none)) = some r := by rw [if_pos rfl] at H; exact H
                clear H
                have H := H1
                clear H1
                by_cases c86 : 0 ≤ x71_3
                ·rw [if_pos c86] at H
                 have c86b0 : decide (0 ≤ x71_3) = true := decide_eq_true c86
                 clear c86
                 (first | rw [c86b0] | (simp only [i64_w, i32_w]; rw [c86b0]) | skip)
                 by_cases c87 : x71_3 < (t655.length : Int)
                 ·rw [if_pos c87] at H
                  have c87b0 : decide (x71_3 < (t655.length : Int)) = true := decide_eq_true c87
                  clear c87
                  by_cases c88 : t676 = (rd t655 x71_3)
                  ·rw [if_pos c88] at H
                   have c88b0 : (t676 == (rd t655 x71_3)) = true := beq_iff_eq.mpr c88
                   have c88b1 : (t676 != (rd t655 x71_3)) = false := bne_eq_false_iff_eq.mpr c88
                   clear c88
                   by_cases c89 : t678 = t680
                   ·rw [if_pos c89] at H
                    have c89b0 : (t678 == t680) = true := beq_iff_eq.mpr c89
                    have c89b1 : (t678 != t680) = false := bne_eq_false_iff_eq.mpr c89
                    clear c89
                    replace H := Option.bind_eq_some_iff.mp H
                    obtain ⟨t683, A900, H⟩ := H
                    replace H : (laws_FnMirrors.j3 k3 x71_3 t676 t678 (t650.length : Int) x71_3 t683 t649 t650 t654 t655) = some r := H
                    have A90 := Aside0.mk A900
                    clear A900
                    have H' := Aside0.mk H
                    clear H
                    have hnb91 := NB659_653.out
                    have hnc91 := NB653_659.out
                    have hnb92 := NB659_665.out
                    have hnc92 := NB665_659.out
                    have hnb93 := NB659_672.out
                    have hnc93 := NB672_659.out
                    have hcz94_0 : w82.cell? ⟨gb659, 0, none⟩ = some (.int .i64 t654) := (blk_cell BK659.out 0).trans rfl
                    have hcz94_1 : w82.cell? ⟨gb659, 1, none⟩ = some (.slice Ao17 t655.length co17) := (blk_cell BK659.out 1).trans rfl
                    have hfz94_0 := blk_frozen BK659.out 0
                    have hfz94_1 := blk_frozen BK659.out 1
                    have p682 : 0 ≤ (x71_3 : Int) := of_decide_eq_true (by first | (with_reducible assumption) | assumption)
                    have q682 : x71_3 < (t655.length : Int) := of_decide_eq_true (by first | (with_reducible assumption) | assumption)
                    obtain ⟨ad682, e682, hx682_0⟩ := Kd.at_int (Kd.R_reads' HO_660001.out).2.2 x71_3 p682 q682
                    cases e682
                    replace p682 := eq_true p682
                    replace q682 := eq_true q682
                    go_wp2_with (first | (go_at_call 35; (with_reducible refine (laws_pIn.calls t678 x71_3 t683 _ A90.out).mono ?_); rintro e w' ⟨rfl, ⟨nd, rfl⟩⟩))
                    go_meet
                    case rel => exact ⟨_, (t683), (by first | rfl | (simp; done) | (simp [*]; done)), H', ⟨by have := HJ7.out; have := HJ35.out; have := HK3.out; first | omega | exact Nat.le_refl _⟩, ⟨by (with_reducible repeat (first | apply Kd.R_alloc | apply Kd.R_drewN | apply Kd.R_drew)); exact HO_654001.out⟩, ⟨by (with_reducible repeat (first | apply Kd.R_alloc | apply Kd.R_drewN | apply Kd.R_drew)); exact HO_660001.out⟩, ⟨by (with_reducible repeat (first | apply Kd.R_alloc | apply Kd.R_drewN | apply Kd.R_drew)); exact HO_666001.out⟩, ⟨by (with_reducible repeat (first | apply Kd.R_alloc | apply Kd.R_drewN | apply Kd.R_drew)); exact HO_673001.out⟩, ⟨by (with_reducible repeat (first | refine blk_drewN ?_ _ | refine blk_drew ?_ | refine blk_alloc ?_ _)); exact BK653.out⟩, ⟨by (with_reducible repeat (first | refine blk_drewN ?_ _ | refine blk_drew ?_ | refine blk_alloc ?_ _)); exact BK659.out⟩, ⟨by (with_reducible repeat (first | refine blk_drewN ?_ _ | refine blk_drew ?_ | refine blk_alloc ?_ _)); exact BK665.out⟩, ⟨by (with_reducible repeat (first | refine blk_drewN ?_ _ | refine blk_drew ?_ | refine blk_alloc ?_ _)); exact BK672.out⟩, ⟨by repeat (first | (with_reducible first | exact HB.out | apply below_alloc | apply pw_below_drewN | apply below_drew1 | refine below_set ?_ GE653.out | refine below_set ?_ GE659.out | refine below_set ?_ GE665.out | refine below_set ?_ GE672.out) | exact HB.out)⟩⟩
                   ·rw [if_neg c89] at H
                    have c89b0 : (t678 == t680) = false := beq_eq_false_iff_ne.mpr c89
                    have c89b1 : (t678 != t680) = true := bne_iff_ne.mpr c89
                    have H' := Aside0.mk H
                    clear H
                    have hnb95 := NB659_653.out
                    have hnc95 := NB653_659.out
                    have hnb96 := NB659_665.out
                    have hnc96 := NB665_659.out
                    have hnb97 := NB659_672.out
                    have hnc97 := NB672_659.out
                    have hcz98_0 : w82.cell? ⟨gb659, 0, none⟩ = some (.int .i64 t654) := (blk_cell BK659.out 0).trans rfl
                    have hcz98_1 : w82.cell? ⟨gb659, 1, none⟩ = some (.slice Ao17 t655.length co17) := (blk_cell BK659.out 1).trans rfl
                    have hfz98_0 := blk_frozen BK659.out 0
                    have hfz98_1 := blk_frozen BK659.out 1
                    have p682 : 0 ≤ (x71_3 : Int) := of_decide_eq_true (by first | (with_reducible assumption) | assumption)
                    have q682 : x71_3 < (t655.length : Int) := of_decide_eq_true (by first | (with_reducible assumption) | assumption)
                    obtain ⟨ad682, e682, hx682_0⟩ := Kd.at_int (Kd.R_reads' HO_660001.out).2.2 x71_3 p682 q682
                    cases e682
                    replace p682 := eq_true p682
                    replace q682 := eq_true q682
                    go_wp2
                    go_meet
                    case rel => exact ⟨_, (true), (by first | rfl | (simp; done) | (simp [*]; done)), H', ⟨by have := HJ7.out; have := HJ35.out; have := HK3.out; first | omega | exact Nat.le_refl _⟩, ⟨by (with_reducible repeat (first | apply Kd.R_alloc | apply Kd.R_drewN | apply Kd.R_drew)); exact HO_654001.out⟩, ⟨by (with_reducible repeat (first | apply Kd.R_alloc | apply Kd.R_drewN | apply Kd.R_drew)); exact HO_660001.out⟩, ⟨by (with_reducible repeat (first | apply Kd.R_alloc | apply Kd.R_drewN | apply Kd.R_drew)); exact HO_666001.out⟩, ⟨by (with_reducible repeat (first | apply Kd.R_alloc | apply Kd.R_drewN | apply Kd.R_drew)); exact HO_673001.out⟩, ⟨by (with_reducible repeat (first | refine blk_drewN ?_ _ | refine blk_drew ?_ | refine blk_alloc ?_ _)); exact BK653.out⟩, ⟨by (with_reducible repeat (first | refine blk_drewN ?_ _ | refine blk_drew ?_ | refine blk_alloc ?_ _)); exact BK659.out⟩, ⟨by (with_reducible repeat (first | refine blk_drewN ?_ _ | refine blk_drew ?_ | refine blk_alloc ?_ _)); exact BK665.out⟩, ⟨by (with_reducible repeat (first | refine blk_drewN ?_ _ | refine blk_drew ?_ | refine blk_alloc ?_ _)); exact BK672.out⟩, ⟨by repeat (first | (with_reducible first | exact HB.out | apply below_alloc | apply pw_below_drewN | apply below_drew1 | refine below_set ?_ GE653.out | refine below_set ?_ GE659.out | refine below_set ?_ GE665.out | refine below_set ?_ GE672.out) | exact HB.out)⟩⟩
                  ·rw [if_neg c88] at H
                   have c88b0 : (t676 == (rd t655 x71_3)) = false := beq_eq_false_iff_ne.mpr c88
                   have c88b1 : (t676 != (rd t655 x71_3)) = true := bne_iff_ne.mpr c88
                   have H' := Aside0.mk H
                   clear H
                   have hnb99 := NB659_653.out
                   have hnc99 := NB653_659.out
                   have hnb100 := NB659_665.out
                   have hnc100 := NB665_659.out
                   have hnb101 := NB659_672.out
                   have hnc101 := NB672_659.out
                   have hcz102_0 : w82.cell? ⟨gb659, 0, none⟩ = some (.int .i64 t654) := (blk_cell BK659.out 0).trans rfl
                   have hcz102_1 : w82.cell? ⟨gb659, 1, none⟩ = some (.slice Ao17 t655.length co17) := (blk_cell BK659.out 1).trans rfl
                   have hfz102_0 := blk_frozen BK659.out 0
                   have hfz102_1 := blk_frozen BK659.out 1
                   have p682 : 0 ≤ (x71_3 : Int) := of_decide_eq_true (by first | (with_reducible assumption) | assumption)
                   have q682 : x71_3 < (t655.length : Int) := of_decide_eq_true (by first | (with_reducible assumption) | assumption)
                   obtain ⟨ad682, e682, hx682_0⟩ := Kd.at_int (Kd.R_reads' HO_660001.out).2.2 x71_3 p682 q682
                   cases e682
                   replace p682 := eq_true p682
                   replace q682 := eq_true q682
                   go_wp2
                   go_meet
                   case rel => exact ⟨_, (true), (by first | rfl | (simp; done) | (simp [*]; done)), H', ⟨by have := HJ7.out; have := HJ35.out; have := HK3.out; first | omega | exact Nat.le_refl _⟩, ⟨by (with_reducible repeat (first | apply Kd.R_alloc | apply Kd.R_drewN | apply Kd.R_drew)); exact HO_654001.out⟩, ⟨by (with_reducible repeat (first | apply Kd.R_alloc | apply Kd.R_drewN | apply Kd.R_drew)); exact HO_660001.out⟩, ⟨by (with_reducible repeat (first | apply Kd.R_alloc | apply Kd.R_drewN | apply Kd.R_drew)); exact HO_666001.out⟩, ⟨by (with_reducible repeat (first | apply Kd.R_alloc | apply Kd.R_drewN | apply Kd.R_drew)); exact HO_673001.out⟩, ⟨by (with_reducible repeat (first | refine blk_drewN ?_ _ | refine blk_drew ?_ | refine blk_alloc ?_ _)); exact BK653.out⟩, ⟨by (with_reducible repeat (first | refine blk_drewN ?_ _ | refine blk_drew ?_ | refine blk_alloc ?_ _)); exact BK659.out⟩, ⟨by (with_reducible repeat (first | refine blk_drewN ?_ _ | refine blk_drew ?_ | refine blk_alloc ?_ _)); exact BK665.out⟩, ⟨by (with_reducible repeat (first | refine blk_drewN ?_ _ | refine blk_drew ?_ | refine blk_alloc ?_ _)); exact BK672.out⟩, ⟨by repeat (first | (with_reducible first | exact HB.out | apply below_alloc | apply pw_below_drewN | apply below_drew1 | refine below_set ?_ GE653.out | refine below_set ?_ GE659.out | refine below_set ?_ GE665.out | refine below_set ?_ GE672.out) | exact HB.out)⟩⟩
                 ·rw [if_neg c87] at H
                  exact absurd H (by simp)
                ·rw [if_neg c86] at H
                 exact absurd H (by simp)
               ·replace c85 := Bool.eq_false_iff.mpr c85
                subst c85
                have H1 : (laws_FnMirrors.j3 k3 x71_3 t676 t678 (t650.length : Int) x71_3 true t649 t650 t654 t655) = some r := by rw [if_neg (show ¬ (false = true) by decide)] at H; exact H
                clear H
                have H := H1
                clear H1
                have H' := Aside0.mk H
                clear H
                go_wp2
                go_meet
                case rel => exact ⟨_, (true), (by first | rfl | (simp; done) | (simp [*]; done)), H', ⟨by have := HJ7.out; have := HJ35.out; have := HK3.out; first | omega | exact Nat.le_refl _⟩, ⟨by (with_reducible repeat (first | apply Kd.R_alloc | apply Kd.R_drewN | apply Kd.R_drew)); exact HO_654001.out⟩, ⟨by (with_reducible repeat (first | apply Kd.R_alloc | apply Kd.R_drewN | apply Kd.R_drew)); exact HO_660001.out⟩, ⟨by (with_reducible repeat (first | apply Kd.R_alloc | apply Kd.R_drewN | apply Kd.R_drew)); exact HO_666001.out⟩, ⟨by (with_reducible repeat (first | apply Kd.R_alloc | apply Kd.R_drewN | apply Kd.R_drew)); exact HO_673001.out⟩, ⟨by (with_reducible repeat (first | refine blk_drewN ?_ _ | refine blk_drew ?_ | refine blk_alloc ?_ _)); exact BK653.out⟩, ⟨by (with_reducible repeat (first | refine blk_drewN ?_ _ | refine blk_drew ?_ | refine blk_alloc ?_ _)); exact BK659.out⟩, ⟨by (with_reducible repeat (first | refine blk_drewN ?_ _ | refine blk_drew ?_ | refine blk_alloc ?_ _)); exact BK665.out⟩, ⟨by (with_reducible repeat (first | refine blk_drewN ?_ _ | refine blk_drew ?_ | refine blk_alloc ?_ _)); exact BK672.out⟩, ⟨by repeat (first | (with_reducible first | exact HB.out | apply below_alloc | apply pw_below_drewN | apply below_drew1 | refine below_set ?_ GE653.out | refine below_set ?_ GE659.out | refine below_set ?_ GE665.out | refine below_set ?_ GE672.out) | exact HB.out)⟩⟩
              ·replace c84 := Bool.eq_false_iff.mpr c84
               subst c84
               have H1 : (laws_FnMirrors.j3 k3 x71_3 t676 t678 (t650.length : Int) x71_3 true t649 t650 t654 t655) = some r := by rw [if_neg (show ¬ (false = true) by decide)] at H; exact H
               clear H
               have H := H1
               clear H1
               have H' := Aside0.mk H
               clear H
               go_wp2
               go_meet
               case rel => exact ⟨_, (true), (by first | rfl | (simp; done) | (simp [*]; done)), H', ⟨by have := HJ7.out; have := HJ35.out; have := HK3.out; first | omega | exact Nat.le_refl _⟩, ⟨by (with_reducible repeat (first | apply Kd.R_alloc | apply Kd.R_drewN | apply Kd.R_drew)); exact HO_654001.out⟩, ⟨by (with_reducible repeat (first | apply Kd.R_alloc | apply Kd.R_drewN | apply Kd.R_drew)); exact HO_660001.out⟩, ⟨by (with_reducible repeat (first | apply Kd.R_alloc | apply Kd.R_drewN | apply Kd.R_drew)); exact HO_666001.out⟩, ⟨by (with_reducible repeat (first | apply Kd.R_alloc | apply Kd.R_drewN | apply Kd.R_drew)); exact HO_673001.out⟩, ⟨by (with_reducible repeat (first | refine blk_drewN ?_ _ | refine blk_drew ?_ | refine blk_alloc ?_ _)); exact BK653.out⟩, ⟨by (with_reducible repeat (first | refine blk_drewN ?_ _ | refine blk_drew ?_ | refine blk_alloc ?_ _)); exact BK659.out⟩, ⟨by (with_reducible repeat (first | refine blk_drewN ?_ _ | refine blk_drew ?_ | refine blk_alloc ?_ _)); exact BK665.out⟩, ⟨by (with_reducible repeat (first | refine blk_drewN ?_ _ | refine blk_drew ?_ | refine blk_alloc ?_ _)); exact BK672.out⟩, ⟨by repeat (first | (with_reducible first | exact HB.out | apply below_alloc | apply pw_below_drewN | apply below_drew1 | refine below_set ?_ GE653.out | refine below_set ?_ GE659.out | refine below_set ?_ GE665.out | refine below_set ?_ GE672.out) | exact HB.out)⟩⟩
             ·replace c83 := Bool.eq_false_iff.mpr c83
              subst c83
              have H1 : (laws_FnMirrors.j3 k3 x71_3 t676 t678 (t650.length : Int) x71_3 true t649 t650 t654 t655) = some r := by rw [if_neg (show ¬ (false = true) by decide)] at H; exact H
              clear H
              have H := H1
              clear H1
              have H' := Aside0.mk H
              clear H
              go_wp2
              go_meet
              case rel => exact ⟨_, (true), (by first | rfl | (simp; done) | (simp [*]; done)), H', ⟨by have := HJ7.out; have := HJ35.out; have := HK3.out; first | omega | exact Nat.le_refl _⟩, ⟨by (with_reducible repeat (first | apply Kd.R_alloc | apply Kd.R_drewN | apply Kd.R_drew)); exact HO_654001.out⟩, ⟨by (with_reducible repeat (first | apply Kd.R_alloc | apply Kd.R_drewN | apply Kd.R_drew)); exact HO_660001.out⟩, ⟨by (with_reducible repeat (first | apply Kd.R_alloc | apply Kd.R_drewN | apply Kd.R_drew)); exact HO_666001.out⟩, ⟨by (with_reducible repeat (first | apply Kd.R_alloc | apply Kd.R_drewN | apply Kd.R_drew)); exact HO_673001.out⟩, ⟨by (with_reducible repeat (first | refine blk_drewN ?_ _ | refine blk_drew ?_ | refine blk_alloc ?_ _)); exact BK653.out⟩, ⟨by (with_reducible repeat (first | refine blk_drewN ?_ _ | refine blk_drew ?_ | refine blk_alloc ?_ _)); exact BK659.out⟩, ⟨by (with_reducible repeat (first | refine blk_drewN ?_ _ | refine blk_drew ?_ | refine blk_alloc ?_ _)); exact BK665.out⟩, ⟨by (with_reducible repeat (first | refine blk_drewN ?_ _ | refine blk_drew ?_ | refine blk_alloc ?_ _)); exact BK672.out⟩, ⟨by repeat (first | (with_reducible first | exact HB.out | apply below_alloc | apply pw_below_drewN | apply below_drew1 | refine below_set ?_ GE653.out | refine below_set ?_ GE659.out | refine below_set ?_ GE665.out | refine below_set ?_ GE672.out) | exact HB.out)⟩⟩
            case rest =>
             clear HC71
             try clear c1
             try clear p2
             try clear c3
             try clear c4
             try clear c6
             try clear p6
             try clear q6
             try clear hx6
             try clear c7
             try clear c8
             try clear c9
             try clear c10
             try clear c31
             try clear c32
             try clear c33
             try clear c34
             try clear c47
             try clear c49
             try clear c62
             try clear c63
             try clear c64
             try clear c65
             try clear c67
             try clear c67b0
             try clear p68
             try clear q68
             try clear hx68
             try clear c72
             try clear c73
             try clear c74
             try clear c79
             try clear c80
             try clear c83
             try clear c84
             try clear c85
             try clear c86
             try clear c86b0
             try clear c87
             try clear c87b0
             try clear c88
             try clear c88b0
             try clear c88b1
             try clear c89
             try clear c89b0
             try clear c89b1
             try clear c91
             try clear c92
             try clear c93
             try clear c95
             try clear c96
             try clear c97
             try clear c99
             try clear c100
             try clear c101
             try clear hcz102_0
             try clear hcz102_1
             try clear hcz66_0
             try clear hcz66_1
             try clear hcz75_0
             try clear hcz75_1
             try clear hcz77_0
             try clear hcz77_1
             try clear hcz81_0
             try clear hcz81_1
             try clear hcz94_0
             try clear hcz94_1
             try clear hcz98_0
             try clear hcz98_1
             try clear hfz102_0
             try clear hfz102_1
             try clear hfz66_0
             try clear hfz66_1
             try clear hfz75_0
             try clear hfz75_1
             try clear hfz77_0
             try clear hfz77_1
             try clear hfz81_0
             try clear hfz81_1
             try clear hfz94_0
             try clear hfz94_1
             try clear hfz98_0
             try clear hfz98_1
             try clear hx682_0
             try clear p2
             try clear p682
             try clear q682
             obtain ⟨kq, x120_70, rfl, HA, HJ70, HO_654001, HO_660001, HO_666001, HO_673001, BK653, BK659, BK665, BK672, HB⟩ := hcut
             cases kq with
             | zero => exact absurd HA.out (by simp [laws_FnMirrors.j3])
             | succ kj70 =>
              have H := HA.out
              clear HA
              simp only [laws_FnMirrors.j3] at H
              by_cases c103 : x120_70 = true
              ·subst c103
               have H1 : (some false) = some r := by rw [if_pos rfl] at H; exact H
               clear H
               have H := H1
               clear H1
               obtain rfl := Option.some.inj H
               go_wp2
               go_ret
               exact ⟨by first | rfl | (simp [errW_none, errW_some] <;> rfl) | (simp [*, errW_none, errW_some] <;> rfl), by repeat (first | (with_reducible first | exact HB.out | apply below_alloc | apply pw_below_drewN | apply below_drew1 | refine below_set ?_ GE653.out | refine below_set ?_ GE659.out | refine below_set ?_ GE665.out | refine below_set ?_ GE672.out) | exact HB.out)⟩
              ·replace c103 := Bool.eq_false_iff.mpr c103
               subst c103
               have H1 : (laws_FnMirrors.l1 kj70 x71_3 t676 t678 (t650.length : Int) x71_3 (t650.length : Int) 0 t649 t650 t654 t655) = some r := by rw [if_neg (show ¬ (false = true) by decide)] at H; exact H
               clear H
               have H := H1
               clear H1
               have H' := Aside0.mk H
               clear H
               have hnb104 := NB653_659.out
               have hnc104 := NB659_653.out
               have hnb105 := NB653_665.out
               have hnc105 := NB665_653.out
               have hnb106 := NB653_672.out
               have hnc106 := NB672_653.out
               have hcz107_0 : wc.cell? ⟨gb653, 0, none⟩ = some (.int .i64 t649) := (blk_cell BK653.out 0).trans rfl
               have hcz107_1 : wc.cell? ⟨gb653, 1, none⟩ = some (.slice Ao12 t650.length co12) := (blk_cell BK653.out 1).trans rfl
               have hfz107_0 := blk_frozen BK653.out 0
               have hfz107_1 := blk_frozen BK653.out 1
               go_wp2
               go_loopg [124] kj70 (fun kq v124 w' => ∃ (x124_5 : Int), v124 = .int .i64 x124_5 ∧ Aside0 (laws_FnMirrors.l1 kq x71_3 t676 t678 (t650.length : Int) x71_3 (t650.length : Int) x124_5 t649 t650 t654 t655 = some r) ∧ Aside0 (kq ≤ kj70) ∧ Aside0 (Kd.R (Kd.int .i64) 3 w' w.heap.size (fun k_ => some k_ ≠ ((.slice Ao17 t655.length co17) : Value).ownBlock ∧ some k_ ≠ ((.slice Ao24 t661.length co24) : Value).ownBlock ∧ some k_ ≠ ((.slice Ao46 t668.length co46) : Value).ownBlock) (.slice Ao12 t650.length co12) t650) ∧ Aside0 (Kd.R (Kd.int .i64) 3 w' w.heap.size (fun k_ => some k_ ≠ ((.slice Ao12 t650.length co12) : Value).ownBlock ∧ some k_ ≠ ((.slice Ao24 t661.length co24) : Value).ownBlock ∧ some k_ ≠ ((.slice Ao46 t668.length co46) : Value).ownBlock) (.slice Ao17 t655.length co17) t655) ∧ Aside0 (Kd.R (Kd.int .i64) 3 w' w.heap.size (fun k_ => some k_ ≠ ((.slice Ao12 t650.length co12) : Value).ownBlock ∧ some k_ ≠ ((.slice Ao17 t655.length co17) : Value).ownBlock ∧ some k_ ≠ ((.slice Ao46 t668.length co46) : Value).ownBlock) (.slice Ao24 t661.length co24) t661) ∧ Aside0 (Kd.R (Kd.int .i64) 3 w' w.heap.size (fun k_ => some k_ ≠ ((.slice Ao12 t650.length co12) : Value).ownBlock ∧ some k_ ≠ ((.slice Ao17 t655.length co17) : Value).ownBlock ∧ some k_ ≠ ((.slice Ao24 t661.length co24) : Value).ownBlock) (.slice Ao46 t668.length co46) t668) ∧ Aside0 (w'.heap[gb653]? = some (.cells #[.int .i64 t649, (.slice Ao12 t650.length co12)] 26 (0, 0))) ∧ Aside0 (w'.heap[gb659]? = some (.cells #[.int .i64 t654, (.slice Ao17 t655.length co17)] 26 (0, 0))) ∧ Aside0 (w'.heap[gb665]? = some (.cells #[.int .i64 t660, (.slice Ao24 t661.length co24)] 26 (0, 0))) ∧ Aside0 (w'.heap[gb672]? = some (.cells #[.int .i64 t667, (.slice Ao46 t668.length co46)] 26 (0, 0))) ∧ Aside0 (Below w.heap.size w w'))
               case atStart => exact ⟨(0), (by first | rfl | (simp; done) | (simp [*]; done)), H', ⟨Nat.le_refl _⟩, ⟨by (with_reducible repeat (first | apply Kd.R_alloc | apply Kd.R_drewN | apply Kd.R_drew)); exact HO_654001.out⟩, ⟨by (with_reducible repeat (first | apply Kd.R_alloc | apply Kd.R_drewN | apply Kd.R_drew)); exact HO_660001.out⟩, ⟨by (with_reducible repeat (first | apply Kd.R_alloc | apply Kd.R_drewN | apply Kd.R_drew)); exact HO_666001.out⟩, ⟨by (with_reducible repeat (first | apply Kd.R_alloc | apply Kd.R_drewN | apply Kd.R_drew)); exact HO_673001.out⟩, ⟨by (with_reducible repeat (first | refine blk_drewN ?_ _ | refine blk_drew ?_ | refine blk_alloc ?_ _)); exact BK653.out⟩, ⟨by (with_reducible repeat (first | refine blk_drewN ?_ _ | refine blk_drew ?_ | refine blk_alloc ?_ _)); exact BK659.out⟩, ⟨by (with_reducible repeat (first | refine blk_drewN ?_ _ | refine blk_drew ?_ | refine blk_alloc ?_ _)); exact BK665.out⟩, ⟨by (with_reducible repeat (first | refine blk_drewN ?_ _ | refine blk_drew ?_ | refine blk_alloc ?_ _)); exact BK672.out⟩, ⟨by repeat (first | (with_reducible first | exact HB.out | apply below_alloc | apply pw_below_drewN | apply below_drew1 | refine below_set ?_ GE653.out | refine below_set ?_ GE659.out | refine below_set ?_ GE665.out | refine below_set ?_ GE672.out) | exact HB.out)⟩⟩
               case round =>
                clear H'
                try clear c1
                try clear p2
                try clear c3
                try clear c4
                try clear c6
                try clear p6
                try clear q6
                try clear hx6
                try clear c7
                try clear c8
                try clear c9
                try clear c10
                try clear c31
                try clear c32
                try clear c33
                try clear c34
                try clear c47
                try clear c49
                try clear c62
                try clear c63
                try clear c64
                try clear c65
                try clear c67
                try clear c67b0
                try clear p68
                try clear q68
                try clear hx68
                try clear c72
                try clear c73
                try clear c74
                try clear c79
                try clear c80
                try clear c83
                try clear c84
                try clear c85
                try clear c86
                try clear c86b0
                try clear c87
                try clear c87b0
                try clear c88
                try clear c88b0
                try clear c88b1
                try clear c89
                try clear c89b0
                try clear c89b1
                try clear c91
                try clear c92
                try clear c93
                try clear c95
                try clear c96
                try clear c97
                try clear c99
                try clear c100
                try clear c101
                try clear c103
                try clear c104
                try clear c105
                try clear c106
                try clear hcz102_0
                try clear hcz102_1
                try clear hcz107_0
                try clear hcz107_1
                try clear hcz66_0
                try clear hcz66_1
                try clear hcz75_0
                try clear hcz75_1
                try clear hcz77_0
                try clear hcz77_1
                try clear hcz81_0
                try clear hcz81_1
                try clear hcz94_0
                try clear hcz94_1
                try clear hcz98_0
                try clear hcz98_1
                try clear hfz102_0
                try clear hfz102_1
                try clear hfz107_0
                try clear hfz107_1
                try clear hfz66_0
                try clear hfz66_1
                try clear hfz75_0
                try clear hfz75_1
                try clear hfz77_0
                try clear hfz77_1
                try clear hfz81_0
                try clear hfz81_1
                try clear hfz94_0
                try clear hfz94_1
                try clear hfz98_0
                try clear hfz98_1
                try clear hx682_0
                try clear p2
                try clear p6
                try clear p68
                try clear p682
                try clear q6
                try clear q68
                try clear q682
                obtain ⟨x124_5, rfl, HA, HK5, HO_654001, HO_660001, HO_666001, HO_673001, BK653, BK659, BK665, BK672, HB⟩ := hrel
                cases gk with
                | zero => exact absurd HA.out (by simp [laws_FnMirrors.l1])
                | succ k5 =>
                 have H := HA.out
                 clear HA
                 simp only [laws_FnMirrors.l1] at H
                 by_cases c108 : x124_5 < (t650.length : Int)
                 ·rw [if_pos c108] at H
                  have c108b0 : decide (x124_5 < (t650.length : Int)) = true := decide_eq_true c108
                  clear c108
                  replace H := Option.bind_eq_some_iff.mp H
                  obtain ⟨⟨t684, t685⟩, A1090, H⟩ := H
                  replace H : (if t685 = true then (if 0 ≤ x71_3 then (if x71_3 < (t650.length : Int) then ((laws_pIn.f (rd t650 x71_3) x124_5).bind fun t687 => (if (t684 != t687) = true then (some false) else (if x71_3 = x124_5 then (laws_FnMirrors.l1 k5 x71_3 t676 t678 (t650.length : Int) x71_3 (t650.length : Int) (wrap64 (x124_5 + 1)) t649 t650 t654 t655) else ((laws_pIn.f t678 x124_5).bind fun t688 => (if t684 = true then (if (t688 == true) = true then (some false) else (laws_FnMirrors.l1 k5 x71_3 t676 t678 (t650.length : Int) x71_3 (t650.length : Int) (wrap64 (x124_5 + 1)) t649 t650 t654 t655)) else ((laws_pIn.f t676 x124_5).bind fun t689 => (if (t688 == t689) = true then (some false) else (laws_FnMirrors.l1 k5 x71_3 t676 t678 (t650.length : Int) x71_3 (t650.length : Int) (wrap64 (x124_5 + 1)) t649 t650 t654 t655)))))))) else (none)) else (none)) else (some false)) = some r := H
                  have A109 := Aside0.mk A1090
                  clear A1090
                  by_cases c110 : t685 = true
                  ·subst c110
                   have H1 : (if 0 ≤ x71_3 then (if x71_3 < (t650.length : Int) then ((laws_pIn.f (rd t650 x71_3) x124_5).bind fun t687 => (if (t684 != t687) = true then (some false) else (if x71_3 = x124_5 then (laws_FnMirrors.l1 k5 x71_3 t676 t678 (t650.length : Int) x71_3 (t650.length : Int) (wrap64 (x124_5 + 1)) t649 t650 t654 t655) else ((laws_pIn.f t678 x124_5).bind fun t688 => (if t684 = true then (if (t688 == true) = true then (some false) else (laws_FnMirrors.l1 k5 x71_3 t676 t678 (t650.length : Int) x71_3 (t650.length : Int) (wrap64 (x124_5 + 1)) t649 t650 t654 t655)) else ((laws_pIn.f t676 x124_5).bind fun t689 => (if (t688 == t689) = true then (some false) else (laws_FnMirrors.l1 k5 x71_3 t676 t678 (t650.length : Int) x71_3 (t650.length : Int) (wrap64 (x124_5 + 1)) t649 t650 t654 t655)))))))) else (none)) else (none)) = some r := by rw [if_pos rfl] at H; exact H
                   clear H
                   have H := H1
                   clear H1
                   by_cases c111 : 0 ≤ x71_3
                   ·rw [if_pos c111] at H
                    have c111b0 : decide (0 ≤ x71_3) = true := decide_eq_true c111
                    clear c111
                    by_cases c112 : x71_3 < (t650.length : Int)
                    ·rw [if_pos c112] at H
                     have c112b0 : decide (x71_3 < (t650.length : Int)) = true := decide_eq_true c112
                     clear c112
                     replace H := Option.bind_eq_some_iff.mp H
                     obtain ⟨t687, A1130, H⟩ := H
                     replace H : (if (t684 != t687) = true then (some false) else (if x71_3 = x124_5 then (laws_FnMirrors.l1 k5 x71_3 t676 t678 (t650.length : Int) x71_3 (t650.length : Int) (wrap64 (x124_5 + 1)) t649 t650 t654 t655) else ((laws_pIn.f t678 x124_5).bind fun t688 => (if t684 = true then (if (t688 == true) = true then (some false) else (laws_FnMirrors.l1 k5 x71_3 t676 t678 (t650.length : Int) x71_3 (t650.length : Int) (wrap64 (x124_5 + 1)) t649 t650 t654 t655)) else ((laws_pIn.f t676 x124_5).bind fun t689 => (if (t688 == t689) = true then (some false) else (laws_FnMirrors.l1 k5 x71_3 t676 t678 (t650.length : Int) x71_3 (t650.length : Int) (wrap64 (x124_5 + 1)) t649 t650 t654 t655))))))) = some r := H
                     have A113 := Aside0.mk A1130
                     clear A1130
                     by_cases c114 : (t684 != t687) = true
                     ·rw [if_pos c114] at H
                      have c114b0 : (t684 != t687) = true := c114
                      (try (have c114b1 : decide (t684 = t687) = false := by simpa using c114))
                      (try (have c114b2 : (t684 == t687) = false := by simpa using c114))
                      (try (have c114b3 : ¬ (t684 = t687) := by simpa using c114))
                      clear c114
                      obtain rfl := Option.some.inj H
                      have hnb115 := NB653_659.out
                      have hnc115 := NB659_653.out
                      have hnb116 := NB653_665.out
                      have hnc116 := NB665_653.out
                      have hnb117 := NB653_672.out
                      have hnc117 := NB672_653.out
                      have hcz118_0 : wr.cell? ⟨gb653, 0, none⟩ = some (.int .i64 t649) := (blk_cell BK653.out 0).trans rfl
                      have hcz118_1 : wr.cell? ⟨gb653, 1, none⟩ = some (.slice Ao12 t650.length co12) := (blk_cell BK653.out 1).trans rfl
                      have hfz118_0 := blk_frozen BK653.out 0
                      have hfz118_1 := blk_frozen BK653.out 1
                      go_wp2_with (first | ((with_reducible refine gate_callee (f := 36) rfl ?_); refine goesL_ (some 131) rfl rfl Tryd.func36 (by kernel_rfl) rfl #[.agg #[.int .i64 t649, .slice Ao12 t650.length co12], .int .i64 x71_3, .int .i64 x124_5] rfl (by (try simp only [List.map_toArray, List.map_cons, List.map_nil]); first | done | rfl | (simp only [List.length_drop, List.length_take]; rfl)) ?_; (with_reducible refine (impl_IsBetter.calls k5 t649 _ _ t650 x71_3 x124_5 t684 true _ ?side1 ?side2 A109.out).mono ?_); (case side1 => repeat (first | exact (Kd.R_reads' HO_654001.out).2.2 | (with_reducible refine Kd.C_alloc ?_ _) | (with_reducible refine Kd.C_drewN ?_ _) | (with_reducible refine Kd.C_drew ?_))); (case side2 => exact (Kd.R_reads' HO_654001.out).2.1); rintro e w119 ⟨rfl, hb⟩; refine ⟨_, rfl, ?_⟩; have n0_ := Aside0.mk (Kd.R_below (by (with_reducible repeat (first | apply Kd.R_alloc | apply Kd.R_drewN | apply Kd.R_drew)); exact HO_654001.out) hb); have n1_ := Aside0.mk (Kd.R_below (by (with_reducible repeat (first | apply Kd.R_alloc | apply Kd.R_drewN | apply Kd.R_drew)); exact HO_660001.out) hb); have n2_ := Aside0.mk (Kd.R_below (by (with_reducible repeat (first | apply Kd.R_alloc | apply Kd.R_drewN | apply Kd.R_drew)); exact HO_666001.out) hb); have n3_ := Aside0.mk (Kd.R_below (by (with_reducible repeat (first | apply Kd.R_alloc | apply Kd.R_drewN | apply Kd.R_drew)); exact HO_673001.out) hb); have n4_ := Aside0.mk (blk_below (g := gb653) (o := .cells #[.int .i64 t649, .slice Ao12 t650.length co12] 26 (0, 0)) (by (with_reducible repeat (first | refine blk_drewN ?_ _ | refine blk_drew ?_ | refine blk_alloc ?_ _)); exact BK653.out) hb); have n5_ := Aside0.mk (blk_below (g := gb659) (o := .cells #[.int .i64 t654, .slice Ao17 t655.length co17] 26 (0, 0)) (by (with_reducible repeat (first | refine blk_drewN ?_ _ | refine blk_drew ?_ | refine blk_alloc ?_ _)); exact BK659.out) hb); have n6_ := Aside0.mk (blk_below (g := gb665) (o := .cells #[.int .i64 t660, .slice Ao24 t661.length co24] 26 (0, 0)) (by (with_reducible repeat (first | refine blk_drewN ?_ _ | refine blk_drew ?_ | refine blk_alloc ?_ _)); exact BK665.out) hb); have n7_ := Aside0.mk (blk_below (g := gb672) (o := .cells #[.int .i64 t667, .slice Ao46 t668.length co46] 26 (0, 0)) (by (with_reducible repeat (first | refine blk_drewN ?_ _ | refine blk_drew ?_ | refine blk_alloc ?_ _)); exact BK672.out) hb); have n8_ := Aside0.mk (below_step (by repeat (first | (with_reducible first | exact HB.out | apply below_alloc | apply pw_below_drewN | apply below_drew1 | refine below_set ?_ GE653.out | refine below_set ?_ GE659.out | refine below_set ?_ GE665.out | refine below_set ?_ GE672.out) | exact HB.out)) hb); clear HO_654001; clear HO_660001; clear HO_666001; clear HO_673001; clear BK653; clear BK659; clear BK665; clear BK672; clear HB; have HO_654001 := n0_; have HO_660001 := n1_; have HO_666001 := n2_; have HO_673001 := n3_; have BK653 := n4_; have BK659 := n5_; have BK665 := n6_; have BK672 := n7_; have HB := n8_; clear n0_ n1_ n2_ n3_ n4_ n5_ n6_ n7_ n8_; (try clear hb); (try clear hb2); (try clear hk); (try clear hi); have hcz120_0 : w119.cell? ⟨gb653, 0, none⟩ = some (.int .i64 t649) := (blk_cell BK653.out 0).trans rfl; have hcz120_1 : w119.cell? ⟨gb653, 1, none⟩ = some (.slice Ao12 t650.length co12) := (blk_cell BK653.out 1).trans rfl; have hfz120_0 := blk_frozen BK653.out 0; have hfz120_1 := blk_frozen BK653.out 1; have p686 : 0 ≤ (x71_3 : Int) := of_decide_eq_true (by first | (with_reducible assumption) | assumption); have q686 : x71_3 < (t650.length : Int) := of_decide_eq_true (by first | (with_reducible assumption) | assumption); obtain ⟨ad686, e686, hx686_0⟩ := Kd.at_int (Kd.R_reads' HO_654001.out).2.2 x71_3 p686 q686; cases e686; replace p686 := eq_true p686; replace q686 := eq_true q686) | (go_at_call 35; (with_reducible refine (laws_pIn.calls (rd t650 x71_3) x124_5 t687 _ A113.out).mono ?_); rintro e w' ⟨rfl, ⟨nd, rfl⟩⟩))
                      go_ret
                      exact ⟨by first | rfl | (simp [errW_none, errW_some] <;> rfl) | (simp [*, errW_none, errW_some] <;> rfl), by repeat (first | (with_reducible first | exact HB.out | apply below_alloc | apply pw_below_drewN | apply below_drew1 | refine below_set ?_ GE653.out | refine below_set ?_ GE659.out | refine below_set ?_ GE665.out | refine below_set ?_ GE672.out) | exact HB.out)⟩
                     ·rw [if_neg c114] at H
                      have c114b0 : (t684 != t687) = false := by simpa using c114
                      (try (have c114b1 : decide (t684 = t687) = true := by simpa using c114))
                      (try (have c114b2 : (t684 == t687) = true := by simpa using c114))
                      clear c114
                      by_cases c121 : x71_3 = x124_5
                      ·rw [if_pos c121] at H
                       have c121b0 : (x71_3 == x124_5) = true := beq_iff_eq.mpr c121
                       have c121b1 : (x71_3 != x124_5) = false := bne_eq_false_iff_eq.mpr c121
                       clear c121
                       have H' := Aside0.mk H
                       clear H
                       have hnb122 := NB653_659.out
                       have hnc122 := NB659_653.out
                       have hnb123 := NB653_665.out
                       have hnc123 := NB665_653.out
                       have hnb124 := NB653_672.out
                       have hnc124 := NB672_653.out
                       have hcz125_0 : wr.cell? ⟨gb653, 0, none⟩ = some (.int .i64 t649) := (blk_cell BK653.out 0).trans rfl
                       have hcz125_1 : wr.cell? ⟨gb653, 1, none⟩ = some (.slice Ao12 t650.length co12) := (blk_cell BK653.out 1).trans rfl
                       have hfz125_0 := blk_frozen BK653.out 0
                       have hfz125_1 := blk_frozen BK653.out 1
                       go_wp2_with (first | ((with_reducible refine gate_callee (f := 36) rfl ?_); refine goesL_ (some 131) rfl rfl Tryd.func36 (by kernel_rfl) rfl #[.agg #[.int .i64 t649, .slice Ao12 t650.length co12], .int .i64 x71_3, .int .i64 x124_5] rfl (by (try simp only [List.map_toArray, List.map_cons, List.map_nil]); first | done | rfl | (simp only [List.length_drop, List.length_take]; rfl)) ?_; (with_reducible refine (impl_IsBetter.calls k5 t649 _ _ t650 x71_3 x124_5 t684 true _ ?side1 ?side2 A109.out).mono ?_); (case side1 => repeat (first | exact (Kd.R_reads' HO_654001.out).2.2 | (with_reducible refine Kd.C_alloc ?_ _) | (with_reducible refine Kd.C_drewN ?_ _) | (with_reducible refine Kd.C_drew ?_))); (case side2 => exact (Kd.R_reads' HO_654001.out).2.1); rintro e w126 ⟨rfl, hb⟩; refine ⟨_, rfl, ?_⟩; have n0_ := Aside0.mk (Kd.R_below (by (with_reducible repeat (first | apply Kd.R_alloc | apply Kd.R_drewN | apply Kd.R_drew)); exact HO_654001.out) hb); have n1_ := Aside0.mk (Kd.R_below (by (with_reducible repeat (first | apply Kd.R_alloc | apply Kd.R_drewN | apply Kd.R_drew)); exact HO_660001.out) hb); have n2_ := Aside0.mk (Kd.R_below (by (with_reducible repeat (first | apply Kd.R_alloc | apply Kd.R_drewN | apply Kd.R_drew)); exact HO_666001.out) hb); have n3_ := Aside0.mk (Kd.R_below (by (with_reducible repeat (first | apply Kd.R_alloc | apply Kd.R_drewN | apply Kd.R_drew)); exact HO_673001.out) hb); have n4_ := Aside0.mk (blk_below (g := gb653) (o := .cells #[.int .i64 t649, .slice Ao12 t650.length co12] 26 (0, 0)) (by (with_reducible repeat (first | refine blk_drewN ?_ _ | refine blk_drew ?_ | refine blk_alloc ?_ _)); exact BK653.out) hb); have n5_ := Aside0.mk (blk_below (g := gb659) (o := .cells #[.int .i64 t654, .slice Ao17 t655.length co17] 26 (0, 0)) (by (with_reducible repeat (first | refine blk_drewN ?_ _ | refine blk_drew ?_ | refine blk_alloc ?_ _)); exact BK659.out) hb); have n6_ := Aside0.mk (blk_below (g := gb665) (o := .cells #[.int .i64 t660, .slice Ao24 t661.length co24] 26 (0, 0)) (by (with_reducible repeat (first | refine blk_drewN ?_ _ | refine blk_drew ?_ | refine blk_alloc ?_ _)); exact BK665.out) hb); have n7_ := Aside0.mk (blk_below (g := gb672) (o := .cells #[.int .i64 t667, .slice Ao46 t668.length co46] 26 (0, 0)) (by (with_reducible repeat (first | refine blk_drewN ?_ _ | refine blk_drew ?_ | refine blk_alloc ?_ _)); exact BK672.out) hb); have n8_ := Aside0.mk (below_step (by repeat (first | (with_reducible first | exact HB.out | apply below_alloc | apply pw_below_drewN | apply below_drew1 | refine below_set ?_ GE653.out | refine below_set ?_ GE659.out | refine below_set ?_ GE665.out | refine below_set ?_ GE672.out) | exact HB.out)) hb); clear HO_654001; clear HO_660001; clear HO_666001; clear HO_673001; clear BK653; clear BK659; clear BK665; clear BK672; clear HB; have HO_654001 := n0_; have HO_660001 := n1_; have HO_666001 := n2_; have HO_673001 := n3_; have BK653 := n4_; have BK659 := n5_; have BK665 := n6_; have BK672 := n7_; have HB := n8_; clear n0_ n1_ n2_ n3_ n4_ n5_ n6_ n7_ n8_; (try clear hb); (try clear hb2); (try clear hk); (try clear hi); have hcz127_0 : w126.cell? ⟨gb653, 0, none⟩ = some (.int .i64 t649) := (blk_cell BK653.out 0).trans rfl; have hcz127_1 : w126.cell? ⟨gb653, 1, none⟩ = some (.slice Ao12 t650.length co12) := (blk_cell BK653.out 1).trans rfl; have hfz127_0 := blk_frozen BK653.out 0; have hfz127_1 := blk_frozen BK653.out 1; have p686 : 0 ≤ (x71_3 : Int) := of_decide_eq_true (by first | (with_reducible assumption) | assumption); have q686 : x71_3 < (t650.length : Int) := of_decide_eq_true (by first | (with_reducible assumption) | assumption); obtain ⟨ad686, e686, hx686_0⟩ := Kd.at_int (Kd.R_reads' HO_654001.out).2.2 x71_3 p686 q686; cases e686; replace p686 := eq_true p686; replace q686 := eq_true q686) | (go_at_call 35; (with_reducible refine (laws_pIn.calls (rd t650 x71_3) x124_5 t687 _ A113.out).mono ?_); rintro e w' ⟨rfl, ⟨nd, rfl⟩⟩))
                       go_roundg k5
                       case measure => have := HJ7.out; have := HJ35.out; have := HK3.out; have := HJ70.out; have := HK5.out; omega
                       case rel => exact ⟨(wrap64 (x124_5 + 1)), (by first | rfl | (simp; done) | (simp [*]; done)), H', ⟨by have := HJ7.out; have := HJ35.out; have := HK3.out; have := HJ70.out; have := HK5.out; omega⟩, ⟨by (with_reducible repeat (first | apply Kd.R_alloc | apply Kd.R_drewN | apply Kd.R_drew)); exact HO_654001.out⟩, ⟨by (with_reducible repeat (first | apply Kd.R_alloc | apply Kd.R_drewN | apply Kd.R_drew)); exact HO_660001.out⟩, ⟨by (with_reducible repeat (first | apply Kd.R_alloc | apply Kd.R_drewN | apply Kd.R_drew)); exact HO_666001.out⟩, ⟨by (with_reducible repeat (first | apply Kd.R_alloc | apply Kd.R_drewN | apply Kd.R_drew)); exact HO_673001.out⟩, ⟨by (with_reducible repeat (first | refine blk_drewN ?_ _ | refine blk_drew ?_ | refine blk_alloc ?_ _)); exact BK653.out⟩, ⟨by (with_reducible repeat (first | refine blk_drewN ?_ _ | refine blk_drew ?_ | refine blk_alloc ?_ _)); exact BK659.out⟩, ⟨by (with_reducible repeat (first | refine blk_drewN ?_ _ | refine blk_drew ?_ | refine blk_alloc ?_ _)); exact BK665.out⟩, ⟨by (with_reducible repeat (first | refine blk_drewN ?_ _ | refine blk_drew ?_ | refine blk_alloc ?_ _)); exact BK672.out⟩, ⟨by repeat (first | (with_reducible first | exact HB.out | apply below_alloc | apply pw_below_drewN | apply below_drew1 | refine below_set ?_ GE653.out | refine below_set ?_ GE659.out | refine below_set ?_ GE665.out | refine below_set ?_ GE672.out) | exact HB.out)⟩⟩
                      ·rw [if_neg c121] at H
                       have c121b0 : (x71_3 == x124_5) = false := beq_eq_false_iff_ne.mpr c121
                       have c121b1 : (x71_3 != x124_5) = true := bne_iff_ne.mpr c121
                       replace H := Option.bind_eq_some_iff.mp H
                       obtain ⟨t688, A1280, H⟩ := H
                       replace H : (if t684 = true then (if (t688 == true) = true then (some false) else (laws_FnMirrors.l1 k5 x71_3 t676 t678 (t650.length : Int) x71_3 (t650.length : Int) (wrap64 (x124_5 + 1)) t649 t650 t654 t655)) else ((laws_pIn.f t676 x124_5).bind fun t689 => (if (t688 == t689) = true then (some false) else (laws_FnMirrors.l1 k5 x71_3 t676 t678 (t650.length : Int) x71_3 (t650.length : Int) (wrap64 (x124_5 + 1)) t649 t650 t654 t655)))) = some r := H
                       have A128 := Aside0.mk A1280
                       clear A1280
                       by_cases c129 : t684 = true
                       ·subst c129
                        have H1 : (if (t688 == true) = true then (some false) else (laws_FnMirrors.l1 k5 x71_3 t676 t678 (t650.length : Int) x71_3 (t650.length : Int) (wrap64 (x124_5 + 1)) t649 t650 t654 t655)) = some r := by rw [if_pos rfl] at H; exact H
                        clear H
                        have H := H1
                        clear H1
                        by_cases c130 : (t688 == true) = true
                        ·rw [if_pos c130] at H
                         have c130b0 : (t688 == true) = true := c130
                         (try (have c130b1 : decide (t688 = true) = true := by simpa using c130))
                         (try (have c130b2 : (t688 == true) = true := by simpa using c130))
                         clear c130
                         obtain rfl := Option.some.inj H
                         have hnb131 := NB653_659.out
                         have hnc131 := NB659_653.out
                         have hnb132 := NB653_665.out
                         have hnc132 := NB665_653.out
                         have hnb133 := NB653_672.out
                         have hnc133 := NB672_653.out
                         have hcz134_0 : wr.cell? ⟨gb653, 0, none⟩ = some (.int .i64 t649) := (blk_cell BK653.out 0).trans rfl
                         have hcz134_1 : wr.cell? ⟨gb653, 1, none⟩ = some (.slice Ao12 t650.length co12) := (blk_cell BK653.out 1).trans rfl
                         have hfz134_0 := blk_frozen BK653.out 0
                         have hfz134_1 := blk_frozen BK653.out 1
                         go_wp2_with (first | ((with_reducible refine gate_callee (f := 36) rfl ?_); refine goesL_ (some 131) rfl rfl Tryd.func36 (by kernel_rfl) rfl #[.agg #[.int .i64 t649, .slice Ao12 t650.length co12], .int .i64 x71_3, .int .i64 x124_5] rfl (by (try simp only [List.map_toArray, List.map_cons, List.map_nil]); first | done | rfl | (simp only [List.length_drop, List.length_take]; rfl)) ?_; (with_reducible refine (impl_IsBetter.calls k5 t649 _ _ t650 x71_3 x124_5 true true _ ?side1 ?side2 A109.out).mono ?_); (case side1 => repeat (first | exact (Kd.R_reads' HO_654001.out).2.2 | (with_reducible refine Kd.C_alloc ?_ _) | (with_reducible refine Kd.C_drewN ?_ _) | (with_reducible refine Kd.C_drew ?_))); (case side2 => exact (Kd.R_reads' HO_654001.out).2.1); rintro e w135 ⟨rfl, hb⟩; refine ⟨_, rfl, ?_⟩; have n0_ := Aside0.mk (Kd.R_below (by (with_reducible repeat (first | apply Kd.R_alloc | apply Kd.R_drewN | apply Kd.R_drew)); exact HO_654001.out) hb); have n1_ := Aside0.mk (Kd.R_below (by (with_reducible repeat (first | apply Kd.R_alloc | apply Kd.R_drewN | apply Kd.R_drew)); exact HO_660001.out) hb); have n2_ := Aside0.mk (Kd.R_below (by (with_reducible repeat (first | apply Kd.R_alloc | apply Kd.R_drewN | apply Kd.R_drew)); exact HO_666001.out) hb); have n3_ := Aside0.mk (Kd.R_below (by (with_reducible repeat (first | apply Kd.R_alloc | apply Kd.R_drewN | apply Kd.R_drew)); exact HO_673001.out) hb); have n4_ := Aside0.mk (blk_below (g := gb653) (o := .cells #[.int .i64 t649, .slice Ao12 t650.length co12] 26 (0, 0)) (by (with_reducible repeat (first | refine blk_drewN ?_ _ | refine blk_drew ?_ | refine blk_alloc ?_ _)); exact BK653.out) hb); have n5_ := Aside0.mk (blk_below (g := gb659) (o := .cells #[.int .i64 t654, .slice Ao17 t655.length co17] 26 (0, 0)) (by (with_reducible repeat (first | refine blk_drewN ?_ _ | refine blk_drew ?_ | refine blk_alloc ?_ _)); exact BK659.out) hb); have n6_ := Aside0.mk (blk_below (g := gb665) (o := .cells #[.int .i64 t660, .slice Ao24 t661.length co24] 26 (0, 0)) (by (with_reducible repeat (first | refine blk_drewN ?_ _ | refine blk_drew ?_ | refine blk_alloc ?_ _)); exact BK665.out) hb); have n7_ := Aside0.mk (blk_below (g := gb672) (o := .cells #[.int .i64 t667, .slice Ao46 t668.length co46] 26 (0, 0)) (by (with_reducible repeat (first | refine blk_drewN ?_ _ | refine blk_drew ?_ | refine blk_alloc ?_ _)); exact BK672.out) hb); have n8_ := Aside0.mk (below_step (by repeat (first | (with_reducible first | exact HB.out | apply below_alloc | apply pw_below_drewN | apply below_drew1 | refine below_set ?_ GE653.out | refine below_set ?_ GE659.out | refine below_set ?_ GE665.out | refine below_set ?_ GE672.out) | exact HB.out)) hb); clear HO_654001; clear HO_660001; clear HO_666001; clear HO_673001; clear BK653; clear BK659; clear BK665; clear BK672; clear HB; have HO_654001 := n0_; have HO_660001 := n1_; have HO_666001 := n2_; have HO_673001 := n3_; have BK653 := n4_; have BK659 := n5_; have BK665 := n6_; have BK672 := n7_; have HB := n8_; clear n0_ n1_ n2_ n3_ n4_ n5_ n6_ n7_ n8_; (try clear hb); (try clear hb2); (try clear hk); (try clear hi); have hcz136_0 : w135.cell? ⟨gb653, 0, none⟩ = some (.int .i64 t649) := (blk_cell BK653.out 0).trans rfl; have hcz136_1 : w135.cell? ⟨gb653, 1, none⟩ = some (.slice Ao12 t650.length co12) := (blk_cell BK653.out 1).trans rfl; have hfz136_0 := blk_frozen BK653.out 0; have hfz136_1 := blk_frozen BK653.out 1; have p686 : 0 ≤ (x71_3 : Int) := of_decide_eq_true (by first | (with_reducible assumption) | assumption); have q686 : x71_3 < (t650.length : Int) := of_decide_eq_true (by first | (with_reducible assumption) | assumption); obtain ⟨ad686, e686, hx686_0⟩ := Kd.at_int (Kd.R_reads' HO_654001.out).2.2 x71_3 p686 q686; cases e686; replace p686 := eq_true p686; replace q686 := eq_true q686) | (go_at_call 35; (with_reducible refine (laws_pIn.calls (rd t650 x71_3) x124_5 t687 _ A113.out).mono ?_); rintro e w' ⟨rfl, ⟨nd, rfl⟩⟩) | (go_at_call 35; (with_reducible refine (laws_pIn.calls t678 x124_5 t688 _ A128.out).mono ?_); rintro e w' ⟨rfl, ⟨nd, rfl⟩⟩))
                         go_ret
                         exact ⟨by first | rfl | (simp [errW_none, errW_some] <;> rfl) | (simp [*, errW_none, errW_some] <;> rfl), by repeat (first | (with_reducible first | exact HB.out | apply below_alloc | apply pw_below_drewN | apply below_drew1 | refine below_set ?_ GE653.out | refine below_set ?_ GE659.out | refine below_set ?_ GE665.out | refine below_set ?_ GE672.out) | exact HB.out)⟩
                        ·rw [if_neg c130] at H
                         have c130b0 : (t688 == true) = false := by simpa using c130
                         (try (have c130b1 : decide (t688 = true) = false := by simpa using c130))
                         (try (have c130b2 : (t688 == true) = false := by simpa using c130))
                         (try (have c130b3 : ¬ (t688 = true) := by simpa using c130))
                         clear c130
                         have H' := Aside0.mk H
                         clear H
                         have hnb137 := NB653_659.out
                         have hnc137 := NB659_653.out
                         have hnb138 := NB653_665.out
                         have hnc138 := NB665_653.out
                         have hnb139 := NB653_672.out
                         have hnc139 := NB672_653.out
                         have hcz140_0 : wr.cell? ⟨gb653, 0, none⟩ = some (.int .i64 t649) := (blk_cell BK653.out 0).trans rfl
                         have hcz140_1 : wr.cell? ⟨gb653, 1, none⟩ = some (.slice Ao12 t650.length co12) := (blk_cell BK653.out 1).trans rfl
                         have hfz140_0 := blk_frozen BK653.out 0
                         have hfz140_1 := blk_frozen BK653.out 1
                         go_wp2_with (first | ((with_reducible refine gate_callee (f := 36) rfl ?_); refine goesL_ (some 131) rfl rfl Tryd.func36 (by kernel_rfl) rfl #[.agg #[.int .i64 t649, .slice Ao12 t650.length co12], .int .i64 x71_3, .int .i64 x124_5] rfl (by (try simp only [List.map_toArray, List.map_cons, List.map_nil]); first | done | rfl | (simp only [List.length_drop, List.length_take]; rfl)) ?_; (with_reducible refine (impl_IsBetter.calls k5 t649 _ _ t650 x71_3 x124_5 true true _ ?side1 ?side2 A109.out).mono ?_); (case side1 => repeat (first | exact (Kd.R_reads' HO_654001.out).2.2 | (with_reducible refine Kd.C_alloc ?_ _) | (with_reducible refine Kd.C_drewN ?_ _) | (with_reducible refine Kd.C_drew ?_))); (case side2 => exact (Kd.R_reads' HO_654001.out).2.1); rintro e w141 ⟨rfl, hb⟩; refine ⟨_, rfl, ?_⟩; have n0_ := Aside0.mk (Kd.R_below (by (with_reducible repeat (first | apply Kd.R_alloc | apply Kd.R_drewN | apply Kd.R_drew)); exact HO_654001.out) hb); have n1_ := Aside0.mk (Kd.R_below (by (with_reducible repeat (first | apply Kd.R_alloc | apply Kd.R_drewN | apply Kd.R_drew)); exact HO_660001.out) hb); have n2_ := Aside0.mk (Kd.R_below (by (with_reducible repeat (first | apply Kd.R_alloc | apply Kd.R_drewN | apply Kd.R_drew)); exact HO_666001.out) hb); have n3_ := Aside0.mk (Kd.R_below (by (with_reducible repeat (first | apply Kd.R_alloc | apply Kd.R_drewN | apply Kd.R_drew)); exact HO_673001.out) hb); have n4_ := Aside0.mk (blk_below (g := gb653) (o := .cells #[.int .i64 t649, .slice Ao12 t650.length co12] 26 (0, 0)) (by (with_reducible repeat (first | refine blk_drewN ?_ _ | refine blk_drew ?_ | refine blk_alloc ?_ _)); exact BK653.out) hb); have n5_ := Aside0.mk (blk_below (g := gb659) (o := .cells #[.int .i64 t654, .slice Ao17 t655.length co17] 26 (0, 0)) (by (with_reducible repeat (first | refine blk_drewN ?_ _ | refine blk_drew ?_ | refine blk_alloc ?_ _)); exact BK659.out) hb); have n6_ := Aside0.mk (blk_below (g := gb665) (o := .cells #[.int .i64 t660, .slice Ao24 t661.length co24] 26 (0, 0)) (by (with_reducible repeat (first | refine blk_drewN ?_ _ | refine blk_drew ?_ | refine blk_alloc ?_ _)); exact BK665.out) hb); have n7_ := Aside0.mk (blk_below (g := gb672) (o := .cells #[.int .i64 t667, .slice Ao46 t668.length co46] 26 (0, 0)) (by (with_reducible repeat (first | refine blk_drewN ?_ _ | refine blk_drew ?_ | refine blk_alloc ?_ _)); exact BK672.out) hb); have n8_ := Aside0.mk (below_step (by repeat (first | (with_reducible first | exact HB.out | apply below_alloc | apply pw_below_drewN | apply below_drew1 | refine below_set ?_ GE653.out | refine below_set ?_ GE659.out | refine below_set ?_ GE665.out | refine below_set ?_ GE672.out) | exact HB.out)) hb); clear HO_654001; clear HO_660001; clear HO_666001; clear HO_673001; clear BK653; clear BK659; clear BK665; clear BK672; clear HB; have HO_654001 := n0_; have HO_660001 := n1_; have HO_666001 := n2_; have HO_673001 := n3_; have BK653 := n4_; have BK659 := n5_; have BK665 := n6_; have BK672 := n7_; have HB := n8_; clear n0_ n1_ n2_ n3_ n4_ n5_ n6_ n7_ n8_; (try clear hb); (try clear hb2); (try clear hk); (try clear hi); have hcz142_0 : w141.cell? ⟨gb653, 0, none⟩ = some (.int .i64 t649) := (blk_cell BK653.out 0).trans rfl; have hcz142_1 : w141.cell? ⟨gb653, 1, none⟩ = some (.slice Ao12 t650.length co12) := (blk_cell BK653.out 1).trans rfl; have hfz142_0 := blk_frozen BK653.out 0; have hfz142_1 := blk_frozen BK653.out 1; have p686 : 0 ≤ (x71_3 : Int) := of_decide_eq_true (by first | (with_reducible assumption) | assumption); have q686 : x71_3 < (t650.length : Int) := of_decide_eq_true (by first | (with_reducible assumption) | assumption); obtain ⟨ad686, e686, hx686_0⟩ := Kd.at_int (Kd.R_reads' HO_654001.out).2.2 x71_3 p686 q686; cases e686; replace p686 := eq_true p686; replace q686 := eq_true q686) | (go_at_call 35; (with_reducible refine (laws_pIn.calls (rd t650 x71_3) x124_5 t687 _ A113.out).mono ?_); rintro e w' ⟨rfl, ⟨nd, rfl⟩⟩) | (go_at_call 35; (with_reducible refine (laws_pIn.calls t678 x124_5 t688 _ A128.out).mono ?_); rintro e w' ⟨rfl, ⟨nd, rfl⟩⟩))
                         go_roundg k5
                         case measure => have := HJ7.out; have := HJ35.out; have := HK3.out; have := HJ70.out; have := HK5.out; omega
                         case rel => exact ⟨(wrap64 (x124_5 + 1)), (by first | rfl | (simp; done) | (simp [*]; done)), H', ⟨by have := HJ7.out; have := HJ35.out; have := HK3.out; have := HJ70.out; have := HK5.out; omega⟩, ⟨by (with_reducible repeat (first | apply Kd.R_alloc | apply Kd.R_drewN | apply Kd.R_drew)); exact HO_654001.out⟩, ⟨by (with_reducible repeat (first | apply Kd.R_alloc | apply Kd.R_drewN | apply Kd.R_drew)); exact HO_660001.out⟩, ⟨by (with_reducible repeat (first | apply Kd.R_alloc | apply Kd.R_drewN | apply Kd.R_drew)); exact HO_666001.out⟩, ⟨by (with_reducible repeat (first | apply Kd.R_alloc | apply Kd.R_drewN | apply Kd.R_drew)); exact HO_673001.out⟩, ⟨by (with_reducible repeat (first | refine blk_drewN ?_ _ | refine blk_drew ?_ | refine blk_alloc ?_ _)); exact BK653.out⟩, ⟨by (with_reducible repeat (first | refine blk_drewN ?_ _ | refine blk_drew ?_ | refine blk_alloc ?_ _)); exact BK659.out⟩, ⟨by (with_reducible repeat (first | refine blk_drewN ?_ _ | refine blk_drew ?_ | refine blk_alloc ?_ _)); exact BK665.out⟩, ⟨by (with_reducible repeat (first | refine blk_drewN ?_ _ | refine blk_drew ?_ | refine blk_alloc ?_ _)); exact BK672.out⟩, ⟨by repeat (first | (with_reducible first | exact HB.out | apply below_alloc | apply pw_below_drewN | apply below_drew1 | refine below_set ?_ GE653.out | refine below_set ?_ GE659.out | refine below_set ?_ GE665.out | refine below_set ?_ GE672.out) | exact HB.out)⟩⟩
                       ·replace c129 := Bool.eq_false_iff.mpr c129
                        subst c129
                        have H1 : ((laws_pIn.f t676 x124_5).bind fun t689 => (if (t688 == t689) = true then (some false) else (laws_FnMirrors.l1 k5 x71_3 t676 t678 (t650.length : Int) x71_3 (t650.length : Int) (wrap64 (x124_5 + 1)) t649 t650 t654 t655))) = some r := by rw [if_neg (show ¬ (false = true) by decide)] at H; exact H
                        clear H
                        have H := H1
                        clear H1
                        replace H := Option.bind_eq_some_iff.mp H
                        obtain ⟨t689, A1430, H⟩ := H
                        replace H : (if (t688 == t689) = true then (some false) else (laws_FnMirrors.l1 k5 x71_3 t676 t678 (t650.length : Int) x71_3 (t650.length : Int) (wrap64 (x124_5 + 1)) t649 t650 t654 t655)) = some r := H
                        have A143 := Aside0.mk A1430
                        clear A1430
                        by_cases c144 : (t688 == t689) = true
                        ·rw [if_pos c144] at H
                         have c144b0 : (t688 == t689) = true := c144
                         (try (have c144b1 : decide (t688 = t689) = true := by simpa using c144))
                         (try (have c144b2 : (t688 == t689) = true := by simpa using c144))
                         clear c144
                         obtain rfl := Option.some.inj H
                         have hnb145 := NB653_659.out
                         have hnc145 := NB659_653.out
                         have hnb146 := NB653_665.out
                         have hnc146 := NB665_653.out
                         have hnb147 := NB653_672.out
                         have hnc147 := NB672_653.out
                         have hcz148_0 : wr.cell? ⟨gb653, 0, none⟩ = some (.int .i64 t649) := (blk_cell BK653.out 0).trans rfl
                         have hcz148_1 : wr.cell? ⟨gb653, 1, none⟩ = some (.slice Ao12 t650.length co12) := (blk_cell BK653.out 1).trans rfl
                         have hfz148_0 := blk_frozen BK653.out 0
                         have hfz148_1 := blk_frozen BK653.out 1
                         go_wp2_with (first | ((with_reducible refine gate_callee (f := 36) rfl ?_); refine goesL_ (some 131) rfl rfl Tryd.func36 (by kernel_rfl) rfl #[.agg #[.int .i64 t649, .slice Ao12 t650.length co12], .int .i64 x71_3, .int .i64 x124_5] rfl (by (try simp only [List.map_toArray, List.map_cons, List.map_nil]); first | done | rfl | (simp only [List.length_drop, List.length_take]; rfl)) ?_; (with_reducible refine (impl_IsBetter.calls k5 t649 _ _ t650 x71_3 x124_5 false true _ ?side1 ?side2 A109.out).mono ?_); (case side1 => repeat (first | exact (Kd.R_reads' HO_654001.out).2.2 | (with_reducible refine Kd.C_alloc ?_ _) | (with_reducible refine Kd.C_drewN ?_ _) | (with_reducible refine Kd.C_drew ?_))); (case side2 => exact (Kd.R_reads' HO_654001.out).2.1); rintro e w149 ⟨rfl, hb⟩; refine ⟨_, rfl, ?_⟩; have n0_ := Aside0.mk (Kd.R_below (by (with_reducible repeat (first | apply Kd.R_alloc | apply Kd.R_drewN | apply Kd.R_drew)); exact HO_654001.out) hb); have n1_ := Aside0.mk (Kd.R_below (by (with_reducible repeat (first | apply Kd.R_alloc | apply Kd.R_drewN | apply Kd.R_drew)); exact HO_660001.out) hb); have n2_ := Aside0.mk (Kd.R_below (by (with_reducible repeat (first | apply Kd.R_alloc | apply Kd.R_drewN | apply Kd.R_drew)); exact HO_666001.out) hb); have n3_ := Aside0.mk (Kd.R_below (by (with_reducible repeat (first | apply Kd.R_alloc | apply Kd.R_drewN | apply Kd.R_drew)); exact HO_673001.out) hb); have n4_ := Aside0.mk (blk_below (g := gb653) (o := .cells #[.int .i64 t649, .slice Ao12 t650.length co12] 26 (0, 0)) (by (with_reducible repeat (first | refine blk_drewN ?_ _ | refine blk_drew ?_ | refine blk_alloc ?_ _)); exact BK653.out) hb); have n5_ := Aside0.mk (blk_below (g := gb659) (o := .cells #[.int .i64 t654, .slice Ao17 t655.length co17] 26 (0, 0)) (by (with_reducible repeat (first | refine blk_drewN ?_ _ | refine blk_drew ?_ | refine blk_alloc ?_ _)); exact BK659.out) hb); have n6_ := Aside0.mk (blk_below (g := gb665) (o := .cells #[.int .i64 t660, .slice Ao24 t661.length co24] 26 (0, 0)) (by (with_reducible repeat (first | refine blk_drewN ?_ _ | refine blk_drew ?_ | refine blk_alloc ?_ _)); exact BK665.out) hb); have n7_ := Aside0.mk (blk_below (g := gb672) (o := .cells #[.int .i64 t667, .slice Ao46 t668.length co46] 26 (0, 0)) (by (with_reducible repeat (first | refine blk_drewN ?_ _ | refine blk_drew ?_ | refine blk_alloc ?_ _)); exact BK672.out) hb); have n8_ := Aside0.mk (below_step (by repeat (first | (with_reducible first | exact HB.out | apply below_alloc | apply pw_below_drewN | apply below_drew1 | refine below_set ?_ GE653.out | refine below_set ?_ GE659.out | refine below_set ?_ GE665.out | refine below_set ?_ GE672.out) | exact HB.out)) hb); clear HO_654001; clear HO_660001; clear HO_666001; clear HO_673001; clear BK653; clear BK659; clear BK665; clear BK672; clear HB; have HO_654001 := n0_; have HO_660001 := n1_; have HO_666001 := n2_; have HO_673001 := n3_; have BK653 := n4_; have BK659 := n5_; have BK665 := n6_; have BK672 := n7_; have HB := n8_; clear n0_ n1_ n2_ n3_ n4_ n5_ n6_ n7_ n8_; (try clear hb); (try clear hb2); (try clear hk); (try clear hi); have hcz150_0 : w149.cell? ⟨gb653, 0, none⟩ = some (.int .i64 t649) := (blk_cell BK653.out 0).trans rfl; have hcz150_1 : w149.cell? ⟨gb653, 1, none⟩ = some (.slice Ao12 t650.length co12) := (blk_cell BK653.out 1).trans rfl; have hfz150_0 := blk_frozen BK653.out 0; have hfz150_1 := blk_frozen BK653.out 1; have p686 : 0 ≤ (x71_3 : Int) := of_decide_eq_true (by first | (with_reducible assumption) | assumption); have q686 : x71_3 < (t650.length : Int) := of_decide_eq_true (by first | (with_reducible assumption) | assumption); obtain ⟨ad686, e686, hx686_0⟩ := Kd.at_int (Kd.R_reads' HO_654001.out).2.2 x71_3 p686 q686; cases e686; replace p686 := eq_true p686; replace q686 := eq_true q686) | (go_at_call 35; (with_reducible refine (laws_pIn.calls (rd t650 x71_3) x124_5 t687 _ A113.out).mono ?_); rintro e w' ⟨rfl, ⟨nd, rfl⟩⟩) | (go_at_call 35; (with_reducible refine (laws_pIn.calls t678 x124_5 t688 _ A128.out).mono ?_); rintro e w' ⟨rfl, ⟨nd, rfl⟩⟩) | (go_at_call 35; (with_reducible refine (laws_pIn.calls t676 x124_5 t689 _ A143.out).mono ?_); rintro e w' ⟨rfl, ⟨nd, rfl⟩⟩))
                         go_ret
                         exact ⟨by first | rfl | (simp [errW_none, errW_some] <;> rfl) | (simp [*, errW_none, errW_some] <;> rfl), by repeat (first | (with_reducible first | exact HB.out | apply below_alloc | apply pw_below_drewN | apply below_drew1 | refine below_set ?_ GE653.out | refine below_set ?_ GE659.out | refine below_set ?_ GE665.out | refine below_set ?_ GE672.out) | exact HB.out)⟩
                        ·rw [if_neg c144] at H
                         have c144b0 : (t688 == t689) = false := by simpa using c144
                         (try (have c144b1 : decide (t688 = t689) = false := by simpa using c144))
                         (try (have c144b2 : (t688 == t689) = false := by simpa using c144))
                         (try (have c144b3 : ¬ (t688 = t689) := by simpa using c144))
                         clear c144
                         have H' := Aside0.mk H
                         clear H
                         have hnb151 := NB653_659.out
                         have hnc151 := NB659_653.out
                         have hnb152 := NB653_665.out
                         have hnc152 := NB665_653.out
                         have hnb153 := NB653_672.out
                         have hnc153 := NB672_653.out
                         have hcz154_0 : wr.cell? ⟨gb653, 0, none⟩ = some (.int .i64 t649) := (blk_cell BK653.out 0).trans rfl
                         have hcz154_1 : wr.cell? ⟨gb653, 1, none⟩ = some (.slice Ao12 t650.length co12) := (blk_cell BK653.out 1).trans rfl
                         have hfz154_0 := blk_frozen BK653.out 0
                         have hfz154_1 := blk_frozen BK653.out 1
                         go_wp2_with (first | ((with_reducible refine gate_callee (f := 36) rfl ?_); refine goesL_ (some 131) rfl rfl Tryd.func36 (by kernel_rfl) rfl #[.agg #[.int .i64 t649, .slice Ao12 t650.length co12], .int .i64 x71_3, .int .i64 x124_5] rfl (by (try simp only [List.map_toArray, List.map_cons, List.map_nil]); first | done | rfl | (simp only [List.length_drop, List.length_take]; rfl)) ?_; (with_reducible refine (impl_IsBetter.calls k5 t649 _ _ t650 x71_3 x124_5 false true _ ?side1 ?side2 A109.out).mono ?_); (case side1 => repeat (first | exact (Kd.R_reads' HO_654001.out).2.2 | (with_reducible refine Kd.C_alloc ?_ _) | (with_reducible refine Kd.C_drewN ?_ _) | (with_reducible refine Kd.C_drew ?_))); (case side2 => exact (Kd.R_reads' HO_654001.out).2.1); rintro e w155 ⟨rfl, hb⟩; refine ⟨_, rfl, ?_⟩; have n0_ := Aside0.mk (Kd.R_below (by (with_reducible repeat (first | apply Kd.R_alloc | apply Kd.R_drewN | apply Kd.R_drew)); exact HO_654001.out) hb); have n1_ := Aside0.mk (Kd.R_below (by (with_reducible repeat (first | apply Kd.R_alloc | apply Kd.R_drewN | apply Kd.R_drew)); exact HO_660001.out) hb); have n2_ := Aside0.mk (Kd.R_below (by (with_reducible repeat (first | apply Kd.R_alloc | apply Kd.R_drewN | apply Kd.R_drew)); exact HO_666001.out) hb); have n3_ := Aside0.mk (Kd.R_below (by (with_reducible repeat (first | apply Kd.R_alloc | apply Kd.R_drewN | apply Kd.R_drew)); exact HO_673001.out) hb); have n4_ := Aside0.mk (blk_below (g := gb653) (o := .cells #[.int .i64 t649, .slice Ao12 t650.length co12] 26 (0, 0)) (by (with_reducible repeat (first | refine blk_drewN ?_ _ | refine blk_drew ?_ | refine blk_alloc ?_ _)); exact BK653.out) hb); have n5_ := Aside0.mk (blk_below (g := gb659) (o := .cells #[.int .i64 t654, .slice Ao17 t655.length co17] 26 (0, 0)) (by (with_reducible repeat (first | refine blk_drewN ?_ _ | refine blk_drew ?_ | refine blk_alloc ?_ _)); exact BK659.out) hb); have n6_ := Aside0.mk (blk_below (g := gb665) (o := .cells #[.int .i64 t660, .slice Ao24 t661.length co24] 26 (0, 0)) (by (with_reducible repeat (first | refine blk_drewN ?_ _ | refine blk_drew ?_ | refine blk_alloc ?_ _)); exact BK665.out) hb); have n7_ := Aside0.mk (blk_below (g := gb672) (o := .cells #[.int .i64 t667, .slice Ao46 t668.length co46] 26 (0, 0)) (by (with_reducible repeat (first | refine blk_drewN ?_ _ | refine blk_drew ?_ | refine blk_alloc ?_ _)); exact BK672.out) hb); have n8_ := Aside0.mk (below_step (by repeat (first | (with_reducible first | exact HB.out | apply below_alloc | apply pw_below_drewN | apply below_drew1 | refine below_set ?_ GE653.out | refine below_set ?_ GE659.out | refine below_set ?_ GE665.out | refine below_set ?_ GE672.out) | exact HB.out)) hb); clear HO_654001; clear HO_660001; clear HO_666001; clear HO_673001; clear BK653; clear BK659; clear BK665; clear BK672; clear HB; have HO_654001 := n0_; have HO_660001 := n1_; have HO_666001 := n2_; have HO_673001 := n3_; have BK653 := n4_; have BK659 := n5_; have BK665 := n6_; have BK672 := n7_; have HB := n8_; clear n0_ n1_ n2_ n3_ n4_ n5_ n6_ n7_ n8_; (try clear hb); (try clear hb2); (try clear hk); (try clear hi); have hcz156_0 : w155.cell? ⟨gb653, 0, none⟩ = some (.int .i64 t649) := (blk_cell BK653.out 0).trans rfl; have hcz156_1 : w155.cell? ⟨gb653, 1, none⟩ = some (.slice Ao12 t650.length co12) := (blk_cell BK653.out 1).trans rfl; have hfz156_0 := blk_frozen BK653.out 0; have hfz156_1 := blk_frozen BK653.out 1; have p686 : 0 ≤ (x71_3 : Int) := of_decide_eq_true (by first | (with_reducible assumption) | assumption); have q686 : x71_3 < (t650.length : Int) := of_decide_eq_true (by first | (with_reducible assumption) | assumption); obtain ⟨ad686, e686, hx686_0⟩ := Kd.at_int (Kd.R_reads' HO_654001.out).2.2 x71_3 p686 q686; cases e686; replace p686 := eq_true p686; replace q686 := eq_true q686) | (go_at_call 35; (with_reducible refine (laws_pIn.calls (rd t650 x71_3) x124_5 t687 _ A113.out).mono ?_); rintro e w' ⟨rfl, ⟨nd, rfl⟩⟩) | (go_at_call 35; (with_reducible refine (laws_pIn.calls t678 x124_5 t688 _ A128.out).mono ?_); rintro e w' ⟨rfl, ⟨nd, rfl⟩⟩) | (go_at_call 35; (with_reducible refine (laws_pIn.calls t676 x124_5 t689 _ A143.out).mono ?_); rintro e w' ⟨rfl, ⟨nd, rfl⟩⟩))
                         go_roundg k5
                         case measure => have := HJ7.out; have := HJ35.out; have := HK3.out; have := HJ70.out; have := HK5.out; omega
                         case rel => exact ⟨(wrap64 (x124_5 + 1)), (by first | rfl | (simp; done) | (simp [*]; done)), H', ⟨by have := HJ7.out; have := HJ35.out; have := HK3.out; have := HJ70.out; have := HK5.out; omega⟩, ⟨by (with_reducible repeat (first | apply Kd.R_alloc | apply Kd.R_drewN | apply Kd.R_drew)); exact HO_654001.out⟩, ⟨by (with_reducible repeat (first | apply Kd.R_alloc | apply Kd.R_drewN | apply Kd.R_drew)); exact HO_660001.out⟩, ⟨by (with_reducible repeat (first | apply Kd.R_alloc | apply Kd.R_drewN | apply Kd.R_drew)); exact HO_666001.out⟩, ⟨by (with_reducible repeat (first | apply Kd.R_alloc | apply Kd.R_drewN | apply Kd.R_drew)); exact HO_673001.out⟩, ⟨by (with_reducible repeat (first | refine blk_drewN ?_ _ | refine blk_drew ?_ | refine blk_alloc ?_ _)); exact BK653.out⟩, ⟨by (with_reducible repeat (first | refine blk_drewN ?_ _ | refine blk_drew ?_ | refine blk_alloc ?_ _)); exact BK659.out⟩, ⟨by (with_reducible repeat (first | refine blk_drewN ?_ _ | refine blk_drew ?_ | refine blk_alloc ?_ _)); exact BK665.out⟩, ⟨by (with_reducible repeat (first | refine blk_drewN ?_ _ | refine blk_drew ?_ | refine blk_alloc ?_ _)); exact BK672.out⟩, ⟨by repeat (first | (with_reducible first | exact HB.out | apply below_alloc | apply pw_below_drewN | apply below_drew1 | refine below_set ?_ GE653.out | refine below_set ?_ GE659.out | refine below_set ?_ GE665.out | refine below_set ?_ GE672.out) | exact HB.out)⟩⟩
                    ·rw [if_neg c112] at H
                     exact absurd H (by simp)
                   ·rw [if_neg c111] at H
                    exact absurd H (by simp)
                  ·replace c110 := Bool.eq_false_iff.mpr c110
                   subst c110
                   have H1 : (some false) = some r := by rw [if_neg (show ¬ (false = true) by decide)] at H; exact H
                   clear H
                   have H := H1
                   clear H1
                   obtain rfl := Option.some.inj H
                   have hnb157 := NB653_659.out
                   have hnc157 := NB659_653.out
                   have hnb158 := NB653_665.out
                   have hnc158 := NB665_653.out
                   have hnb159 := NB653_672.out
                   have hnc159 := NB672_653.out
                   have hcz160_0 : wr.cell? ⟨gb653, 0, none⟩ = some (.int .i64 t649) := (blk_cell BK653.out 0).trans rfl
                   have hcz160_1 : wr.cell? ⟨gb653, 1, none⟩ = some (.slice Ao12 t650.length co12) := (blk_cell BK653.out 1).trans rfl
                   have hfz160_0 := blk_frozen BK653.out 0
                   have hfz160_1 := blk_frozen BK653.out 1
                   go_wp2_with (first | ((with_reducible refine gate_callee (f := 36) rfl ?_); refine goesL_ (some 131) rfl rfl Tryd.func36 (by kernel_rfl) rfl #[.agg #[.int .i64 t649, .slice Ao12 t650.length co12], .int .i64 x71_3, .int .i64 x124_5] rfl (by (try simp only [List.map_toArray, List.map_cons, List.map_nil]); first | done | rfl | (simp only [List.length_drop, List.length_take]; rfl)) ?_; (with_reducible refine (impl_IsBetter.calls k5 t649 _ _ t650 x71_3 x124_5 t684 false _ ?side1 ?side2 A109.out).mono ?_); (case side1 => repeat (first | exact (Kd.R_reads' HO_654001.out).2.2 | (with_reducible refine Kd.C_alloc ?_ _) | (with_reducible refine Kd.C_drewN ?_ _) | (with_reducible refine Kd.C_drew ?_))); (case side2 => exact (Kd.R_reads' HO_654001.out).2.1); rintro e w161 ⟨rfl, hb⟩; refine ⟨_, rfl, ?_⟩; have n0_ := Aside0.mk (Kd.R_below (by (with_reducible repeat (first | apply Kd.R_alloc | apply Kd.R_drewN | apply Kd.R_drew)); exact HO_654001.out) hb); have n1_ := Aside0.mk (Kd.R_below (by (with_reducible repeat (first | apply Kd.R_alloc | apply Kd.R_drewN | apply Kd.R_drew)); exact HO_660001.out) hb); have n2_ := Aside0.mk (Kd.R_below (by (with_reducible repeat (first | apply Kd.R_alloc | apply Kd.R_drewN | apply Kd.R_drew)); exact HO_666001.out) hb); have n3_ := Aside0.mk (Kd.R_below (by (with_reducible repeat (first | apply Kd.R_alloc | apply Kd.R_drewN | apply Kd.R_drew)); exact HO_673001.out) hb); have n4_ := Aside0.mk (blk_below (g := gb653) (o := .cells #[.int .i64 t649, .slice Ao12 t650.length co12] 26 (0, 0)) (by (with_reducible repeat (first | refine blk_drewN ?_ _ | refine blk_drew ?_ | refine blk_alloc ?_ _)); exact BK653.out) hb); have n5_ := Aside0.mk (blk_below (g := gb659) (o := .cells #[.int .i64 t654, .slice Ao17 t655.length co17] 26 (0, 0)) (by (with_reducible repeat (first | refine blk_drewN ?_ _ | refine blk_drew ?_ | refine blk_alloc ?_ _)); exact BK659.out) hb); have n6_ := Aside0.mk (blk_below (g := gb665) (o := .cells #[.int .i64 t660, .slice Ao24 t661.length co24] 26 (0, 0)) (by (with_reducible repeat (first | refine blk_drewN ?_ _ | refine blk_drew ?_ | refine blk_alloc ?_ _)); exact BK665.out) hb); have n7_ := Aside0.mk (blk_below (g := gb672) (o := .cells #[.int .i64 t667, .slice Ao46 t668.length co46] 26 (0, 0)) (by (with_reducible repeat (first | refine blk_drewN ?_ _ | refine blk_drew ?_ | refine blk_alloc ?_ _)); exact BK672.out) hb); have n8_ := Aside0.mk (below_step (by repeat (first | (with_reducible first | exact HB.out | apply below_alloc | apply pw_below_drewN | apply below_drew1 | refine below_set ?_ GE653.out | refine below_set ?_ GE659.out | refine below_set ?_ GE665.out | refine below_set ?_ GE672.out) | exact HB.out)) hb); clear HO_654001; clear HO_660001; clear HO_666001; clear HO_673001; clear BK653; clear BK659; clear BK665; clear BK672; clear HB; have HO_654001 := n0_; have HO_660001 := n1_; have HO_666001 := n2_; have HO_673001 := n3_; have BK653 := n4_; have BK659 := n5_; have BK665 := n6_; have BK672 := n7_; have HB := n8_; clear n0_ n1_ n2_ n3_ n4_ n5_ n6_ n7_ n8_; (try clear hb); (try clear hb2); (try clear hk); (try clear hi)))
                   go_ret
                   exact ⟨by first | rfl | (simp [errW_none, errW_some] <;> rfl) | (simp [*, errW_none, errW_some] <;> rfl), by repeat (first | (with_reducible first | exact HB.out | apply below_alloc | apply pw_below_drewN | apply below_drew1 | refine below_set ?_ GE653.out | refine below_set ?_ GE659.out | refine below_set ?_ GE665.out | refine below_set ?_ GE672.out) | exact HB.out)⟩
                 ·rw [if_neg c108] at H
                  have c108b0 : decide (x124_5 < (t650.length : Int)) = false := decide_eq_false c108
                  clear c108
                  have H' := Aside0.mk H
                  clear H
                  go_wp2
                  go_roundg k5
                  case measure => have := HJ7.out; have := HJ35.out; have := HK3.out; have := HJ70.out; have := HK5.out; omega
                  case rel => exact ⟨(wrap64 (x71_3 + 1)), (by first | rfl | (simp; done) | (simp [*]; done)), H', ⟨by have := HJ7.out; have := HJ35.out; have := HK3.out; have := HJ70.out; have := HK5.out; omega⟩, ⟨by (with_reducible repeat (first | apply Kd.R_alloc | apply Kd.R_drewN | apply Kd.R_drew)); exact HO_654001.out⟩, ⟨by (with_reducible repeat (first | apply Kd.R_alloc | apply Kd.R_drewN | apply Kd.R_drew)); exact HO_660001.out⟩, ⟨by (with_reducible repeat (first | apply Kd.R_alloc | apply Kd.R_drewN | apply Kd.R_drew)); exact HO_666001.out⟩, ⟨by (with_reducible repeat (first | apply Kd.R_alloc | apply Kd.R_drewN | apply Kd.R_drew)); exact HO_673001.out⟩, ⟨by (with_reducible repeat (first | refine blk_drewN ?_ _ | refine blk_drew ?_ | refine blk_alloc ?_ _)); exact BK653.out⟩, ⟨by (with_reducible repeat (first | refine blk_drewN ?_ _ | refine blk_drew ?_ | refine blk_alloc ?_ _)); exact BK659.out⟩, ⟨by (with_reducible repeat (first | refine blk_drewN ?_ _ | refine blk_drew ?_ | refine blk_alloc ?_ _)); exact BK665.out⟩, ⟨by (with_reducible repeat (first | refine blk_drewN ?_ _ | refine blk_drew ?_ | refine blk_alloc ?_ _)); exact BK672.out⟩, ⟨by repeat (first | (with_reducible first | exact HB.out | apply below_alloc | apply pw_below_drewN | apply below_drew1 | refine below_set ?_ GE653.out | refine below_set ?_ GE659.out | refine below_set ?_ GE665.out | refine below_set ?_ GE672.out) | exact HB.out)⟩⟩
           ·rw [if_neg c67] at H
            have c67b0 : decide (x71_3 < (t650.length : Int)) = false := decide_eq_false c67
            clear c67
            obtain rfl := Option.some.inj H
            go_wp2
            go_ret
            exact ⟨by first | rfl | (simp [errW_none, errW_some] <;> rfl) | (simp [*, errW_none, errW_some] <;> rfl), by repeat (first | (with_reducible first | exact HB.out | apply below_alloc | apply pw_below_drewN | apply below_drew1 | refine below_set ?_ GE653.out | refine below_set ?_ GE659.out | refine below_set ?_ GE665.out | refine below_set ?_ GE672.out) | exact HB.out)⟩
     ·replace c34 := Bool.eq_false_iff.mpr c34
      subst c34
      have H1 : (some true) = some r := by rw [if_neg (show ¬ (false = true) by decide)] at H; exact H
      clear H
      have H := H1
      clear H1
      obtain rfl := Option.some.inj H
      go_wp2
      go_ret
      exact ⟨by first | rfl | (simp [errW_none, errW_some] <;> rfl) | (simp [*, errW_none, errW_some] <;> rfl), by repeat (first | (with_reducible first | exact HB.out | apply below_alloc | apply pw_below_drewN | apply below_drew1 | refine below_set ?_ GE653.out | refine below_set ?_ GE659.out | refine below_set ?_ GE665.out) | exact HB.out)⟩
def laws_FnMirrors.Pure : Prop := ∀ (l0 : List Int) (l1 : List Int), l0.length ≤ maxLen → l0.length * 1 ≤ 140737488351232 → (∀ x ∈ l0, (Lit.int .u8 x).wf = true) → l1.length ≤ maxLen → l1.length * 1 ≤ 140737488351232 → (∀ x ∈ l1, (Lit.int .u8 x).wf = true) → ∃ k, laws_FnMirrors.f k l0 l1 = some true
theorem laws_FnMirrors.walk (P : laws_FnMirrors.Pure) (a0 : Option Addr) (len0 cap0 : Nat) (z0 : List Int) (a1 : Option Addr) (len1 cap1 : Nat) (z1 : List Int) (w : World) (w0 : (a0 = none ∧ len0 = 0 ∧ cap0 = 0 ∧ z0 = []) ∨ ∃ x, a0 = some x ∧ len0 ≤ cap0 ∧ cap0 ≤ maxLen ∧ z0.length = cap0 ∧ (∀ i, i < z0.length → w.cell? (x.add i) = some (.int .u8 (z0.getD i 0))) ∧ ∀ n ∈ z0, (Lit.int .u8 n).wf = true) (y0 : len0 * 1 ≤ 140737488351232) (w1 : (a1 = none ∧ len1 = 0 ∧ cap1 = 0 ∧ z1 = []) ∨ ∃ x, a1 = some x ∧ len1 ≤ cap1 ∧ cap1 ≤ maxLen ∧ z1.length = cap1 ∧ (∀ i, i < z1.length → w.cell? (x.add i) = some (.int .u8 (z1.getD i 0))) ∧ ∀ n ∈ z1, (Lit.int .u8 n).wf = true) (y1 : len1 * 1 ≤ 140737488351232) (hT : TabOK w) :
 Calls Tryd.prog 5 #[.slice a0 len0 cap0, .slice a1 len1 cap1] w fun e w' => e = .returned (.bool true) ∧ Below w.heap.size w w' := by
 obtain ⟨l0, rfl, hr0, hm0, hw0, hc0⟩ := ReadsInt.ofRowC w0
 obtain ⟨l1, rfl, hr1, hm1, hw1, hc1⟩ := ReadsInt.ofRowC w1
 obtain ⟨k, h⟩ := P l0 l1 hm0 y0 hw0 hm1 y1 hw1
 refine (laws_FnMirrors.calls k _ _ l0 _ _ l1 true w (Kd.C_of_reads (d := (0 : Int)) (h1 := fun _ => rfl) hr0) hc0 (Kd.C_of_reads (d := (0 : Int)) (h1 := fun _ => rfl) hr1) hc1 hT h).mono ?_
 rintro e w' ⟨rfl, hd⟩
 exact ⟨rfl, hd⟩
end Go.Proofs.YtjdkcafpgebjfaaDoor.P
namespace Go.Proofs.YtjdkcafpgebjfaaDoor.M
open Go.RowKit Go.Proofs.YtjdkcafpgebjfaaDoorW.PrintMore Go.Proofs.YtjdkcafpgebjfaaDoorW.PrintLast Go.Proofs.YtjdkcafpgebjfaaDoorW.PrintWords
theorem i64_small (n : Nat) (h : n < 9223372036854775808) : IntKind.i64.wrap (n : Int) = (n : Int) := by
  simp [IntKind.wrap, IntKind.signed, IntKind.bits]
  omega
theorem wrap64_id (x : Int) (h0 : -9223372036854775808 ≤ x) (h1 : x ≤ 9223372036854775807) : wrap64 x = x := by
  unfold wrap64
  omega
theorem ofInt64 (a : Nat) (ha : a < 18446744073709551616) : (BitVec.ofInt 64 (a : Int)).toNat = a := by
  rw [BitVec.ofInt_natCast, BitVec.toNat_ofNat]; exact Nat.mod_eq_of_lt (by omega)
theorem and_i64 (a b : Nat) (ha : a < 9223372036854775808) (hb : b < 9223372036854775808) : Go.bits .and .i64 (a : Int) (b : Int) = ((a &&& b : Nat) : Int) := by
  have hx : a &&& b < 2 ^ 63 := Nat.and_lt_two_pow _ (by omega)
  show IntKind.i64.wrap ((BitVec.ofInt 64 (a : Int) &&& BitVec.ofInt 64 (b : Int)).toNat : Int) = _
  rw [BitVec.toNat_and, ofInt64 a (by omega), ofInt64 b (by omega), i64_small _ (by omega)]
theorem or_i64 (a b : Nat) (ha : a < 9223372036854775808) (hb : b < 9223372036854775808) : Go.bits .or .i64 (a : Int) (b : Int) = ((a ||| b : Nat) : Int) := by
  have hx : a ||| b < 2 ^ 63 := Nat.or_lt_two_pow (by omega) (by omega)
  show IntKind.i64.wrap ((BitVec.ofInt 64 (a : Int) ||| BitVec.ofInt 64 (b : Int)).toNat : Int) = _
  rw [BitVec.toNat_or, ofInt64 a (by omega), ofInt64 b (by omega), i64_small _ (by omega)]
def diff (a b : Nat) : Nat := a &&& (a ^^^ b)
theorem testBit_diff (a b i : Nat) : (diff a b).testBit i = (a.testBit i && !b.testBit i) := by
  unfold diff
  rw [Nat.testBit_and, Nat.testBit_xor]
  cases a.testBit i <;> cases b.testBit i <;> rfl
theorem andNot_i64 (a b : Nat) (ha : a < 9223372036854775808) (hb : b < 9223372036854775808) : Go.bits .andNot .i64 (a : Int) (b : Int) = ((diff a b : Nat) : Int) := by
  have hx : diff a b < 2 ^ 63 := Nat.lt_of_le_of_lt Nat.and_le_left (by omega)
  show IntKind.i64.wrap ((BitVec.ofInt 64 (a : Int) &&& ~~~ BitVec.ofInt 64 (b : Int)).toNat : Int) = _
  have e : (BitVec.ofInt 64 (a : Int) &&& ~~~ BitVec.ofInt 64 (b : Int)).toNat = diff a b := by
    apply Nat.eq_of_testBit_eq
    intro i
    rw [BitVec.toNat_and, Nat.testBit_and, testBit_diff, ofInt64 a (by omega)]
    by_cases hi : i < 64
    · rw [show (~~~ BitVec.ofInt 64 (b : Int)).toNat.testBit i = !(BitVec.ofInt 64 (b : Int)).toNat.testBit i from by
        rw [BitVec.testBit_toNat, BitVec.testBit_toNat, BitVec.getLsbD_not]; simp [hi], ofInt64 b (by omega)]
    · rw [Nat.testBit_lt_two_pow (x := a) (i := i) (Nat.lt_of_lt_of_le (by omega : a < 2 ^ 64) (Nat.pow_le_pow_right (by decide) (by omega)))]
      rfl
  rw [e, i64_small _ (by omega)]
theorem shl1 (j : Nat) (h : j ≤ 62) : shl .i64 1 (j : Int) = ((2 ^ j : Nat) : Int) := by
  unfold shl
  have h2 : (2 : Nat) ^ j < 9223372036854775808 := Nat.lt_of_le_of_lt (Nat.pow_le_pow_right (by decide) h) (by decide)
  rw [Int.toNat_natCast, Nat.min_eq_left (by show j ≤ 64; omega), Int.one_mul]
  have := i64_small (2 ^ j) h2
  rwa [Int.natCast_pow] at this ⊢
theorem shr_nat (a j : Nat) (h : j ≤ 64) : shr .i64 (a : Int) (j : Int) = ((a / 2 ^ j : Nat) : Int) := by
  unfold shr
  rw [Int.toNat_natCast, Nat.min_eq_left (by exact h)]
  simp
def bit (s : Int) (j : Nat) : Bool := s.toNat.testBit j
theorem bit_cast (a j : Nat) : bit (a : Int) j = a.testBit j := by simp [bit]
theorem and_one (a : Nat) (j : Nat) : ((a / 2 ^ j) &&& 1 : Nat) = if a.testBit j then 1 else 0 := by
  rw [Nat.and_one_is_mod, Nat.testBit_eq_decide_div_mod_eq]
  rcases Nat.mod_two_eq_zero_or_one (a / 2 ^ j) with h | h <;> simp [h]
theorem has_and (s : Int) (j : Nat) (h0 : 0 ≤ s) (h1 : s < 9223372036854775808) (hj : j ≤ 64) : (Go.bits .and .i64 (shr .i64 s (j : Int)) 1 == 1) = bit s j := by
  obtain ⟨a, rfl⟩ := Int.eq_ofNat_of_zero_le h0
  have hl : a / 2 ^ j < 9223372036854775808 := Nat.lt_of_le_of_lt (Nat.div_le_self _ _) (by omega)
  rw [shr_nat a j hj, show (1 : Int) = ((1 : Nat) : Int) from rfl, and_i64 _ 1 hl (by decide), and_one, bit_cast]
  cases a.testBit j <;> rfl
theorem has_mod (s : Int) (j : Nat) (h0 : 0 ≤ s) (hj : j ≤ 64) : (Int.tmod (shr .i64 s (j : Int)) 2 == 1) = bit s j := by
  obtain ⟨a, rfl⟩ := Int.eq_ofNat_of_zero_le h0
  rw [shr_nat a j hj, bit_cast, Nat.testBit_eq_decide_div_mod_eq, Int.tmod_eq_emod_of_nonneg (Int.natCast_nonneg _)]
  rcases Nat.mod_two_eq_zero_or_one (a / 2 ^ j) with h | h
  · rw [show ((a / 2 ^ j : Nat) : Int) % 2 = 0 from by omega]; simp [h]
  · rw [show ((a / 2 ^ j : Nat) : Int) % 2 = 1 from by omega]; simp [h]
def setOf : Nat → (Nat → Bool) → Nat
  | 0, _ => 0
  | n + 1, q => setOf n q ||| (if q n then 2 ^ n else 0)
theorem testBit_setOf (n : Nat) (q : Nat → Bool) (j : Nat) : (setOf n q).testBit j = (decide (j < n) && q j) := by
  induction n with
  | zero => simp [setOf]
  | succ n ih =>
    unfold setOf
    rw [Nat.testBit_or, ih]
    by_cases hq : q n
    · rw [if_pos hq, Nat.testBit_two_pow]
      by_cases h : n = j
      · subst h; simp [hq]
      · have : (j < n + 1) ↔ j < n := by omega
        simp [h, this]
    · rw [if_neg hq]
      by_cases h : n = j
      · subst h; simp [hq]
      · have : (j < n + 1) ↔ j < n := by omega
        simp [this]
theorem setOf_lt (n : Nat) (q : Nat → Bool) : setOf n q < 2 ^ n := by
  induction n with
  | zero => simp [setOf]
  | succ n ih =>
    unfold setOf
    have h1 : setOf n q < 2 ^ (n + 1) := Nat.lt_of_lt_of_le ih (Nat.pow_le_pow_right (by decide) (by omega))
    refine Nat.or_lt_two_pow h1 ?_
    split
    · exact Nat.pow_lt_pow_right (by decide) (by omega)
    · exact Nat.two_pow_pos _
theorem setOf_congr {n : Nat} {q q' : Nat → Bool} (h : ∀ j, j < n → q j = q' j) : setOf n q = setOf n q' := by
  apply Nat.eq_of_testBit_eq
  intro j
  rw [testBit_setOf, testBit_setOf]
  by_cases hj : j < n
  · rw [h j hj]
  · simp [hj]
theorem lt62 {n s : Nat} (h : s < 2 ^ n) (hn : n ≤ 62) : s < 9223372036854775808 := Nat.lt_of_lt_of_le h (Nat.le_trans (Nat.pow_le_pow_right (by decide) hn) (by decide))
theorem setOf_62 (n : Nat) (q : Nat → Bool) (hn : n ≤ 62) : setOf n q < 9223372036854775808 := lt62 (setOf_lt n q) hn
end Go.Proofs.YtjdkcafpgebjfaaDoor.M
namespace Go.Proofs.YtjdkcafpgebjfaaDoor.M
open Go.RowKit Go.Proofs.YtjdkcafpgebjfaaDoorW.PrintMore Go.Proofs.YtjdkcafpgebjfaaDoorW.PrintLast Go.Proofs.YtjdkcafpgebjfaaDoorW.PrintWords
theorem Ev.up {α : Type} {r : α} (G : Nat → Nat → Option α) (n : Nat) (step : ∀ i, i < n → Ev (G (i + 1)) r → Ev (G i) r) (stop : Ev (G n) r) : Ev (G 0) r := by
  have key : ∀ m, m ≤ n → Ev (G (n - m)) r := by
    intro m
    induction m with
    | zero => intro _; exact stop
    | succ m ih =>
      intro hm
      have h := step (n - (m + 1)) (by omega)
      rw [show n - (m + 1) + 1 = n - m from by omega] at h
      exact h (ih (by omega))
  have := key n (Nat.le_refl _)
  rwa [Nat.sub_self] at this
theorem Ev.from {α : Type} {r : α} (G : Nat → Nat → Option α) (n i : Nat) (hi : i ≤ n) (step : ∀ i, i < n → Ev (G (i + 1)) r → Ev (G i) r) (stop : Ev (G n) r) : Ev (G i) r := by
  have h := Ev.up (fun j => G (i + j)) (n - i) (fun j hj h => step (i + j) (by omega) h) (by rw [show i + (n - i) = n from by omega]; exact stop)
  exact h
def allB (n : Nat) (p : Nat → Bool) : Bool := (List.range n).all p
theorem allB_iff {n : Nat} {p : Nat → Bool} : allB n p = true ↔ ∀ j, j < n → p j = true := by simp [allB]
theorem allB_false {n : Nat} {p : Nat → Bool} : allB n p = false ↔ ∃ j, j < n ∧ p j = false := by simp [allB]
theorem least_false {n : Nat} {p : Nat → Bool} (h : ∃ j, j < n ∧ p j = false) : ∃ j, j < n ∧ p j = false ∧ ∀ i, i < j → p i = true := by
  obtain ⟨j, hj, hp⟩ := h
  induction j using Nat.strongRecOn with
  | _ j ih =>
    by_cases hl : ∃ i, i < j ∧ p i = false
    · obtain ⟨i, hi, hpi⟩ := hl
      exact ih i hi (by omega) hpi
    · refine ⟨j, hj, hp, fun i hi => ?_⟩
      cases hc : p i with
      | true => rfl
      | false => exact absurd ⟨i, hi, hc⟩ hl
theorem Ev.all (G : Nat → Nat → Option Bool) (n : Nat) (p : Nat → Bool) (yes : ∀ i r, i < n → p i = true → Ev (G (i + 1)) r → Ev (G i) r) (no : ∀ i, i < n → p i = false → Ev (G i) false) (stop : Ev (G n) true) :
    Ev (G 0) (allB n p) := by
  cases h : allB n p with
  | true =>
    have h := allB_iff.1 h
    exact Ev.up G n (fun i hi => yes i true hi (h i hi)) stop
  | false =>
    obtain ⟨j, hj, hp, hl⟩ := least_false (allB_false.1 h)
    exact Ev.up G j (fun i hi => yes i false (by omega) (hl i hi)) (no j hj hp)
theorem Ev.const {α : Type} {x : Option α} {r : α} (h : x = some r) : Ev (fun _ => x) r := ⟨0, fun _ _ => h⟩
theorem Ev.to {α : Type} {g : Nat → Option α} {r r' : α} (h : Ev g r) (e : r = r') : Ev g r' := e ▸ h
theorem rd_nat (l : List Int) (i : Nat) : rd l (i : Int) = l.getD i 0 := by simp [rd]
theorem rd_get (l : List Int) (i : Nat) (h : i < l.length) : rd l (i : Int) = l[i] := by simp [rd, h]
theorem next64 (i n : Nat) (h : i < n) (hn : n ≤ 140737488355328) : wrap64 ((i : Int) + 1) = ((i + 1 : Nat) : Int) := by unfold wrap64; omega
theorem list_ext_getD {l l' : List Int} (hl : l.length = l'.length) (h : ∀ i, i < l.length → l.getD i 0 = l'.getD i 0) : l = l' := by
  apply List.ext_getElem hl
  intro i h1 h2
  have := h i h1
  simpa [h1, h2] using this
end Go.Proofs.YtjdkcafpgebjfaaDoor.M
namespace Go.Proofs.YtjdkcafpgebjfaaDoor.P
open Bool renaming true → T, false → F
open List renaming setIfInBounds_toArray → L_, set_cons_zero → M_, set_cons_succ → N_
open Go.RowKit Go.Proofs.YtjdkcafpgebjfaaDoorW.PrintWords Go.Proofs.YtjdkcafpgebjfaaDoorW.PrintLast Go.Proofs.YtjdkcafpgebjfaaDoorW.PrintMore
attribute [local go_sem] max2_int min2_int max_two min_two max_three min_three max_four min_four
set_option linter.unusedVariables false
set_option linter.unusedSimpArgs false
attribute [local go_sem] fldOrder_0 fldOrder_1
def spec_orList.l0 : Nat → Int → List Int → Int → Option (List Int)
 | 0, _, _, _ => none
 | k + 1, x0, x3, x4 => if 0 ≤ x4 then (if (shr .i64 x0 x4) > 0 then ((spec_orHas.f x0 x4).bind fun t108 => (if t108 = true then (if x3.length < 17592186044416 then (spec_orList.l0 k x0 (x3 ++ [x4]) (wrap64 (x4 + 1))) else (none)) else (spec_orList.l0 k x0 x3 (wrap64 (x4 + 1))))) else (some x3)) else (none)
def spec_orList.f (k : Nat) (a0 : Int) : Option (List Int) := spec_orList.l0 k a0 ([] : List Int) 0
end Go.Proofs.YtjdkcafpgebjfaaDoor.P
namespace Go.Proofs.YtjdkcafpgebjfaaDoor.M
open Go.RowKit Go.Proofs.YtjdkcafpgebjfaaDoorW.PrintMore Go.Proofs.YtjdkcafpgebjfaaDoorW.PrintLast Go.Proofs.YtjdkcafpgebjfaaDoorW.PrintWords Go.Proofs.YtjdkcafpgebjfaaDoor.P
def elems (n s : Nat) : List Nat := (List.range n).filter fun j => s.testBit j
theorem mem_elems {n s j : Nat} : j ∈ elems n s ↔ j < n ∧ s.testBit j = true := by simp [elems]
theorem elems_zero (n : Nat) : elems n 0 = [] := by simp [elems]
def ints (l : List Nat) : List Int := l.map fun (j : Nat) => (j : Int)
theorem ints_length (l : List Nat) : (ints l).length = l.length := by simp [ints]
theorem elems_length_le (n s : Nat) : (elems n s).length ≤ n := by
  unfold elems
  exact Nat.le_trans (List.length_filter_le _ _) (by simp)
theorem filter_range_split (n c : Nat) (h : c < n) (p : Nat → Bool) : (List.range n).filter p = (List.range c).filter p ++ ((if p c then [c] else []) ++ (List.range' (c + 1) (n - (c + 1))).filter p) := by
  have e : List.range n = List.range c ++ ([c] ++ List.range' (c + 1) (n - (c + 1))) := by
    rw [List.range_eq_range', List.range_eq_range']
    have h1 : n = c + (1 + (n - (c + 1))) := by omega
    have e1 : List.range' 0 n = List.range' 0 c ++ List.range' c (1 + (n - (c + 1))) := by
      have := List.range'_append_1 (s := 0) (m := c) (n := 1 + (n - (c + 1)))
      rw [Nat.zero_add] at this
      rw [this, ← h1]
    rw [e1, Nat.add_comm 1, List.range'_succ]
    rfl
  rw [e, List.filter_append, List.filter_append]
  congr 1
  cases hp : p c <;> simp [hp]
theorem elems_least (n s c m : Nat) (hs : s = 2 ^ c * (2 * m + 1)) (hn : s < 2 ^ n) : elems n s = c :: elems n (s &&& (s - 1)) := by
  have hp : 0 < 2 ^ c := Nat.two_pow_pos c
  have e1 : s - 1 = 2 ^ (c + 1) * m + (2 ^ c - 1) := by
    have a1 : 2 ^ c * (2 * m + 1) = 2 ^ (c + 1) * m + 2 ^ c := by rw [Nat.pow_succ, Nat.mul_add, Nat.mul_assoc]; simp
    omega
  have hb : ∀ j, s.testBit j = if j < c then false else if j = c then true else m.testBit (j - (c + 1)) := by
    intro j
    rw [hs, Nat.mul_comm, Nat.testBit_mul_two_pow]
    by_cases h1 : j < c
    · rw [if_pos h1]; simp; omega
    · rw [if_neg h1]
      by_cases h2 : j = c
      · subst h2; simp
      · rw [if_neg h2]
        obtain ⟨d, rfl⟩ : ∃ d, j = c + (d + 1) := ⟨j - c - 1, by omega⟩
        rw [show c + (d + 1) - c = d + 1 from by omega, show c + (d + 1) - (c + 1) = d from by omega, Nat.testBit_succ, show (2 * m + 1) / 2 = m from by omega]
        simp
  have hb1 : ∀ j, (s - 1).testBit j = if j < c then true else if j = c then false else m.testBit (j - (c + 1)) := by
    intro j
    rw [e1, Nat.testBit_two_pow_mul_add m (by have : 2 ^ c < 2 ^ (c + 1) := Nat.pow_lt_pow_right (by decide) (by omega); omega)]
    by_cases h1 : j < c
    · rw [if_pos (by omega), if_pos h1, Nat.testBit_two_pow_sub_one]; simp [h1]
    · rw [if_neg h1]
      by_cases h2 : j = c
      · subst h2; rw [if_pos (by omega), if_pos rfl, Nat.testBit_two_pow_sub_one]; simp
      · rw [if_neg (by omega), if_neg h2]
  have hb2 : ∀ j, (s &&& (s - 1)).testBit j = if j ≤ c then false else s.testBit j := by
    intro j
    rw [Nat.testBit_and, hb, hb1]
    by_cases h1 : j < c
    · simp [h1, Nat.le_of_lt h1]
    · by_cases h2 : j = c
      · simp [h2]
      · rw [if_neg h1, if_neg h1, if_neg h2, if_neg h2, if_neg (by omega)]; simp
  have hc : c < n := by
    apply Nat.lt_of_not_le
    intro hle
    have h1 : 2 ^ n ≤ 2 ^ c := Nat.pow_le_pow_right (by decide) hle
    have h2 : 2 ^ c ≤ s := by rw [hs]; exact Nat.le_mul_of_pos_right _ (by omega)
    omega
  unfold elems
  rw [filter_range_split n c hc, filter_range_split n c hc (fun j => (s &&& (s - 1)).testBit j)]
  have z1 : (List.range c).filter (fun j => s.testBit j) = [] := by
    rw [List.filter_eq_nil_iff]; intro j hj; simp at hj; rw [hb, if_pos hj]; simp
  have z2 : (List.range c).filter (fun j => (s &&& (s - 1)).testBit j) = [] := by
    rw [List.filter_eq_nil_iff]; intro j hj; simp at hj; rw [hb2, if_pos (by omega)]; simp
  have z3 : (List.range' (c + 1) (n - (c + 1))).filter (fun j => s.testBit j) = (List.range' (c + 1) (n - (c + 1))).filter (fun j => (s &&& (s - 1)).testBit j) := by
    apply List.filter_congr
    intro j hj
    rw [List.mem_range'] at hj
    obtain ⟨i, hi, rfl⟩ := hj
    rw [hb2, if_neg (by omega)]
  have y1 : s.testBit c = true := by rw [hb, if_neg (by omega), if_pos rfl]
  have y2 : (s &&& (s - 1)).testBit c = false := by rw [hb2, if_pos (Nat.le_refl _)]
  rw [z1, z2, z3, if_pos y1, y2]
  rfl
theorem and_pred_lt (s : Nat) (h : s ≠ 0) : s &&& (s - 1) < s := Nat.lt_of_le_of_lt Nat.and_le_right (by omega)
theorem u64_small (n : Nat) (h : n < 18446744073709551616) : IntKind.u64.wrap (n : Int) = (n : Int) := by
  simp [IntKind.wrap, IntKind.signed, IntKind.bits]
  omega
theorem members_ev (n : Nat) (hn : n ≤ 62) (s : Nat) (hs : s < 2 ^ n) : Ev (fun k => impl_members.f k (s : Int)) (ints (elems n s)) := by
  have key : ∀ d s, s ≤ d → s < 2 ^ n → ∀ acc : List Int, acc.length + (elems n s).length ≤ 64 → Ev (fun k => impl_members.l0 k (s : Int) acc) (acc ++ ints (elems n s)) := by
    intro d
    induction d with
    | zero =>
      intro s h0 _ acc _
      obtain rfl : s = 0 := by omega
      refine Ev.step (fun _ => rfl) ?_
      simp only [impl_members.l0, Int.natCast_zero, if_true]
      rw [elems_zero]
      simpa [ints] using Ev.now acc
    | succ d ih =>
      intro s h0 hs acc ha
      by_cases hz : s = 0
      · exact ih s (by omega) hs acc ha
      · have hs2 := lt62 hs hn
        obtain ⟨m, hm, hk⟩ := Lib.ctzFrom_spec 64 s (by omega) (by omega)
        have he := elems_least n s _ m hm hs
        have hl : (elems n s).length = (elems n (s &&& (s - 1))).length + 1 := by rw [he]; rfl
        refine Ev.step (fun _ => rfl) ?_
        have hc : Lib.ctz 64 s = Lib.ctzFrom 64 s := by unfold Lib.ctz; rw [if_neg hz]
        have e1 : bits_TrailingZeros.f (IntKind.u64.wrap (s : Int)) = some ((Lib.ctzFrom 64 s : Nat) : Int) := by
          rw [u64_small s (by omega)]
          unfold bits_TrailingZeros.f bits_TrailingZeros64.f
          rw [if_pos ⟨by omega, by omega⟩, Int.toNat_natCast, hc]
          rfl
        have e2 : Go.bits .and .i64 (s : Int) (wrap64 ((s : Int) - 1)) = ((s &&& (s - 1) : Nat) : Int) := by
          rw [show wrap64 ((s : Int) - 1) = ((s - 1 : Nat) : Int) from by unfold wrap64; omega]
          exact and_i64 _ _ (by omega) (by omega)
        simp only [impl_members.l0, if_neg (show ¬ (s : Int) = 0 by omega), e1, Option.bind_some, if_pos (show acc.length < 17592186044416 by omega), e2]
        have := ih (s &&& (s - 1)) (by have := and_pred_lt s hz; omega) (Nat.lt_of_le_of_lt Nat.and_le_left hs) (acc ++ [((Lib.ctzFrom 64 s : Nat) : Int)]) (by simp; omega)
        refine Ev.to this ?_
        rw [he]
        simp [ints]
  have h := key s s (Nat.le_refl _) hs [] (by have := elems_length_le n s; simp; omega)
  exact h
theorem orHas_eq (s : Nat) (j : Nat) (hj : j ≤ 64) : spec_orHas.f (s : Int) (j : Int) = some (s.testBit j) := by
  unfold spec_orHas.f
  rw [if_pos (by omega), has_mod _ _ (by omega) hj, bit_cast]
end Go.Proofs.YtjdkcafpgebjfaaDoor.M
namespace Go.Proofs.YtjdkcafpgebjfaaDoor.P
open Bool renaming true → T, false → F
open List renaming setIfInBounds_toArray → L_, set_cons_zero → M_, set_cons_succ → N_
open Go.RowKit Go.Proofs.YtjdkcafpgebjfaaDoorW.PrintWords Go.Proofs.YtjdkcafpgebjfaaDoorW.PrintLast Go.Proofs.YtjdkcafpgebjfaaDoorW.PrintMore
attribute [local go_sem] max2_int min2_int max_two min_two max_three min_three max_four min_four
set_option linter.unusedVariables false
set_option linter.unusedSimpArgs false
attribute [local go_sem] fldOrder_0 fldOrder_1
mutual
def spec_orGood.l0 : Nat → List Int → Int → Int → Int → List Int → Option (Bool)
 | 0, _, _, _, _, _ => none
 | k + 1, x11, x12, x13, x113000, x113001 => if x13 < x12 then (if 0 ≤ x13 then (if x13 < (x11.length : Int) then ((spec_orHas.f (rd x11 x13) x13).bind fun t115 => (if t115 = true then (some false) else ((spec_orList.f k (rd x11 x13)).bind fun t116 => (spec_orGood.l1 k (rd x11 x13) x11 x12 x13 t116 (t116.length : Int) 0 x113000 x113001)))) else (none)) else (none)) else (some true)
def spec_orGood.l1 : Nat → Int → List Int → Int → Int → List Int → Int → Int → Int → List Int → Option (Bool)
 | 0, _, _, _, _, _, _, _, _, _ => none
 | k + 1, x4, x11, x12, x13, x22, x23, x24, x113000, x113001 => if x24 < x23 then (if 0 ≤ x24 then (if x24 < (x22.length : Int) then (if 0 ≤ (rd x22 x24) then (if (rd x22 x24) < (x113001.length : Int) then (if (Go.bits .andNot .i64 (rd x113001 (rd x22 x24)) x4) = 0 then (spec_orGood.l1 k x4 x11 x12 x13 x22 x23 (wrap64 (x24 + 1)) x113000 x113001) else (some false)) else (none)) else (none)) else (none)) else (none)) else (spec_orGood.l0 k x11 x12 (wrap64 (x13 + 1)) x113000 x113001)
end
end Go.Proofs.YtjdkcafpgebjfaaDoor.P
namespace Go.Proofs.YtjdkcafpgebjfaaDoor.M
open Go.RowKit Go.Proofs.YtjdkcafpgebjfaaDoorW.PrintMore Go.Proofs.YtjdkcafpgebjfaaDoorW.PrintLast Go.Proofs.YtjdkcafpgebjfaaDoorW.PrintWords Go.Proofs.YtjdkcafpgebjfaaDoor.P
def isRel (n : Int) (l : List Int) : Bool := decide (0 ≤ n ∧ n ≤ 10 ∧ (l.length : Int) = n ∧ ∀ x ∈ l, 0 ≤ x ∧ x ≤ ((2 ^ n.toNat : Nat) : Int) - 1)
def row (l : List Int) (i : Nat) : Nat := (l.getD i 0).toNat
def B (l : List Int) (i j : Nat) : Bool := (row l i).testBit j
structure Rel (n : Nat) (l : List Int) : Prop where
  le : n ≤ 10
  len : l.length = n
  mem : ∀ x ∈ l, 0 ≤ x ∧ x ≤ ((2 ^ n : Nat) : Int) - 1
theorem isRel_iff {n : Int} {l : List Int} : isRel n l = true ↔ ∃ m : Nat, n = m ∧ Rel m l := by
  unfold isRel
  rw [decide_eq_true_iff]
  constructor
  · rintro ⟨h0, h1, h2, h3⟩
    obtain ⟨m, rfl⟩ := Int.eq_ofNat_of_zero_le h0
    exact ⟨m, rfl, by omega, by omega, by simpa using h3⟩
  · rintro ⟨m, rfl, h⟩
    refine ⟨by omega, by have := h.le; omega, by have := h.len; omega, by simpa using h.mem⟩
section
variable {n : Nat} {l : List Int}
theorem Rel.getD (h : Rel n l) (i : Nat) : l.getD i 0 = ((row l i : Nat) : Int) := by
  unfold row
  by_cases hi : i < l.length
  · have := (h.mem l[i] (List.getElem_mem hi)).1
    rw [show l.getD i 0 = l[i] by simp [hi]]
    omega
  · rw [show l.getD i 0 = 0 by simp [Nat.not_lt.1 hi]]
    rfl
theorem Rel.row_lt (h : Rel n l) (i : Nat) : row l i < 2 ^ n := by
  have hp : 0 < 2 ^ n := Nat.two_pow_pos n
  by_cases hi : i < l.length
  · have h1 := h.mem l[i] (List.getElem_mem hi)
    have h2 := h.getD i
    rw [show l.getD i 0 = l[i] by simp [hi]] at h2
    omega
  · unfold row
    rw [show l.getD i 0 = 0 by simp [Nat.not_lt.1 hi]]
    simpa using hp
theorem Rel.row_62 (h : Rel n l) (i : Nat) : row l i < 9223372036854775808 := lt62 (h.row_lt i) (by have := h.le; omega)
theorem Rel.B_lt (h : Rel n l) {i j : Nat} (hb : B l i j = true) : j < n := by
  apply Nat.lt_of_not_le
  intro hle
  unfold B at hb
  rw [Nat.testBit_lt_two_pow (Nat.lt_of_lt_of_le (h.row_lt i) (Nat.pow_le_pow_right (by decide) hle))] at hb
  cases hb
theorem Rel.B_lt' (h : Rel n l) {i j : Nat} (hb : B l i j = true) : i < n := by
  apply Nat.lt_of_not_le
  intro hle
  unfold B row at hb
  rw [show l.getD i 0 = 0 by simp [h.len, hle]] at hb
  simp at hb
theorem Rel.rd (h : Rel n l) (i : Nat) : rd l (i : Int) = ((row l i : Nat) : Int) := by rw [rd_nat, h.getD]
theorem Rel.bit (h : Rel n l) (i j : Nat) : M.bit (Go.Proofs.YtjdkcafpgebjfaaDoorW.PrintWords.rd l (i : Int)) j = B l i j := by rw [h.rd, bit_cast]; rfl
theorem Rel.ext {l' : List Int} (h : Rel n l) (h' : Rel n l') (hb : ∀ i j, i < n → j < n → B l i j = B l' i j) : l = l' := by
  apply list_ext_getD (by rw [h.len, h'.len])
  intro i hi
  rw [h.getD, h'.getD]
  congr 1
  apply Nat.eq_of_testBit_eq
  intro j
  by_cases hj : j < n
  · exact hb i j (by rw [← h.len]; exact hi) hj
  · have e1 : B l i j = false := by
      cases hc : B l i j with
      | false => rfl
      | true => exact absurd (h.B_lt hc) hj
    have e2 : B l' i j = false := by
      cases hc : B l' i j with
      | false => rfl
      | true => exact absurd (h'.B_lt hc) hj
    exact e1.trans e2.symm
end
def relL (n : Nat) (p : Nat → Nat → Bool) : List Int := (List.range n).map fun i => ((setOf n (p i) : Nat) : Int)
theorem relL_length (n : Nat) (p : Nat → Nat → Bool) : (relL n p).length = n := by simp [relL]
theorem relL_row (n : Nat) (p : Nat → Nat → Bool) (i : Nat) (h : i < n) : row (relL n p) i = setOf n (p i) := by
  simp [row, relL, h]
theorem relL_B (n : Nat) (p : Nat → Nat → Bool) (i j : Nat) : B (relL n p) i j = (decide (i < n) && (decide (j < n) && p i j)) := by
  unfold B
  by_cases h : i < n
  · rw [relL_row n p i h, testBit_setOf]; simp [h]
  · have : row (relL n p) i = 0 := by simp [row, relL, h]
    rw [this]; simp [h]
theorem relL_rel (n : Nat) (hn : n ≤ 10) (p : Nat → Nat → Bool) : Rel n (relL n p) where
  le := hn
  len := relL_length n p
  mem := by
    intro x hx
    simp only [relL, List.mem_map, List.mem_range] at hx
    obtain ⟨i, _, rfl⟩ := hx
    have := setOf_lt n (p i)
    omega
theorem within_eq (a b c : Int) : impl_within.f a b c = some (decide (b ≤ a ∧ a ≤ c)) := by
  unfold impl_within.f
  by_cases h : a ≥ b
  · rw [if_pos h]; simp [h]
  · rw [if_neg h]; simp; omega
theorem l1In_eq (a b c : Int) : spec_l1In.f a b c = some (decide (b ≤ a ∧ a ≤ c)) := by
  unfold spec_l1In.f
  by_cases h : a ≥ b
  · rw [if_pos h]; simp [h]
  · rw [if_neg h]; simp; omega
def allIn (l : List Int) (a b : Int) : Bool := decide (∀ x ∈ l, a ≤ x ∧ x ≤ b)
theorem allIn_eq (l : List Int) (a b : Int) : allIn l a b = allB l.length fun i => decide (a ≤ l.getD i 0 ∧ l.getD i 0 ≤ b) := by
  rw [Bool.eq_iff_iff, allB_iff]
  simp only [allIn, decide_eq_true_iff]
  constructor
  · intro h i hi
    have := h l[i] (List.getElem_mem hi)
    simpa [hi] using this
  · intro h x hx
    obtain ⟨i, hi, rfl⟩ := List.getElem_of_mem hx
    have := h i hi
    simpa [hi] using this
theorem allWithin_ev (l : List Int) (a b : Int) (hl : l.length ≤ 140737488355328) : Ev (fun k => impl_allWithin.f k l a b) (allIn l a b) := by
  rw [allIn_eq]
  unfold impl_allWithin.f
  refine Ev.all (fun i k => impl_allWithin.l0 k a b l (l.length : Int) (i : Int)) l.length _ ?_ ?_ ?_
  · intro i r hi hp h
    refine Ev.step (fun _ => rfl) ?_
    rw [decide_eq_true_iff] at hp
    simp only [impl_allWithin.l0, if_pos (show (i : Int) < (l.length : Int) by omega), if_pos (show (0 : Int) ≤ (i : Int) by omega), within_eq, rd_nat, Option.bind_some, decide_eq_true hp, if_true, next64 i l.length hi hl]
    exact h
  · intro i hi hp
    refine Ev.step (fun _ => rfl) ?_
    rw [decide_eq_false_iff_not] at hp
    simp only [impl_allWithin.l0, if_pos (show (i : Int) < (l.length : Int) by omega), if_pos (show (0 : Int) ≤ (i : Int) by omega), within_eq, rd_nat, Option.bind_some, decide_eq_false hp, Bool.false_eq_true, if_false]
    exact Ev.now _
  · refine Ev.step (fun _ => rfl) ?_
    simp only [impl_allWithin.l0, if_neg (show ¬ (l.length : Int) < (l.length : Int) by omega)]
    exact Ev.now _
theorem l1All_ev (l : List Int) (a b : Int) (hl : l.length ≤ 140737488355328) : Ev (fun k => spec_l1All.f k l a b) (allIn l a b) := by
  rw [allIn_eq]
  unfold spec_l1All.f
  refine Ev.all (fun i k => spec_l1All.l0 k a b l (l.length : Int) (i : Int)) l.length _ ?_ ?_ ?_
  · intro i r hi hp h
    refine Ev.step (fun _ => rfl) ?_
    rw [decide_eq_true_iff] at hp
    simp only [spec_l1All.l0, if_pos (show (i : Int) < (l.length : Int) by omega), if_pos (show (0 : Int) ≤ (i : Int) by omega), l1In_eq, rd_nat, Option.bind_some, decide_eq_true hp, if_true, next64 i l.length hi hl]
    exact h
  · intro i hi hp
    refine Ev.step (fun _ => rfl) ?_
    rw [decide_eq_false_iff_not] at hp
    simp only [spec_l1All.l0, if_pos (show (i : Int) < (l.length : Int) by omega), if_pos (show (0 : Int) ≤ (i : Int) by omega), l1In_eq, rd_nat, Option.bind_some, decide_eq_false hp, Bool.false_eq_true, if_false]
    exact Ev.now _
  · refine Ev.step (fun _ => rfl) ?_
    simp only [spec_l1All.l0, if_neg (show ¬ (l.length : Int) < (l.length : Int) by omega)]
    exact Ev.now _
theorem pow_of (n : Int) (h0 : 0 ≤ n) (h1 : n ≤ 10) : wrap64 (shl .i64 1 n - 1) = ((2 ^ n.toNat : Nat) : Int) - 1 := by
  obtain ⟨m, rfl⟩ := Int.eq_ofNat_of_zero_le h0
  rw [shl1 m (by omega), Int.toNat_natCast]
  have h2 : (2 : Nat) ^ m ≤ 2 ^ 10 := Nat.pow_le_pow_right (by decide) (by omega)
  have h3 : 0 < (2 : Nat) ^ m := Nat.two_pow_pos m
  exact wrap64_id _ (by omega) (by omega)
theorem isRel_parts (n : Int) (l : List Int) : isRel n l = (decide (0 ≤ n ∧ n ≤ 10) && (decide ((l.length : Int) = n) && allIn l 0 (((2 ^ n.toNat : Nat) : Int) - 1))) := by
  rw [Bool.eq_iff_iff]
  simp only [isRel, allIn, Bool.and_eq_true, decide_eq_true_iff]
  exact ⟨fun ⟨a, b, c, d⟩ => ⟨⟨a, b⟩, c, d⟩, fun ⟨⟨a, b⟩, c, d⟩ => ⟨a, b, c, d⟩⟩
theorem IsRelation_ev (n : Int) (l : List Int) (hl : l.length ≤ 140737488355328) : Ev (fun k => impl_IsRelation.f k n l) (isRel n l) := by
  unfold impl_IsRelation.f
  simp only [within_eq, Option.bind_some]
  rw [isRel_parts]
  by_cases h1 : 0 ≤ n ∧ n ≤ 10
  · by_cases h2 : (l.length : Int) = n
    · simp only [decide_eq_true h1, if_true, if_pos h2, if_pos h1.1, pow_of n h1.1 h1.2, decide_eq_true h2, Bool.true_and]
      exact Ev.bind (allWithin_ev l _ _ hl) (Ev.now _)
    · simp only [decide_eq_true h1, if_true, if_neg h2, decide_eq_false h2, Bool.false_and, Bool.and_false]
      exact Ev.now _
  · simp only [decide_eq_false h1, Bool.false_eq_true, if_false, Bool.false_and]
    exact Ev.now _
theorem orRelation_ev (n : Int) (l : List Int) (hl : l.length ≤ 140737488355328) : Ev (fun k => spec_orRelation.f k n l) (isRel n l) := by
  unfold spec_orRelation.f
  simp only [l1In_eq, Option.bind_some]
  rw [isRel_parts]
  by_cases h1 : 0 ≤ n ∧ n ≤ 10
  · by_cases h2 : (l.length : Int) = n
    · simp only [decide_eq_true h1, if_true, if_pos h2, if_pos h1.1, pow_of n h1.1 h1.2, decide_eq_true h2, Bool.true_and]
      exact Ev.bind (l1All_ev l _ _ hl) (Ev.now _)
    · simp only [decide_eq_true h1, if_true, if_neg h2, decide_eq_false h2, Bool.false_and, Bool.and_false]
      exact Ev.now _
  · simp only [decide_eq_false h1, Bool.false_eq_true, if_false, Bool.false_and]
    exact Ev.now _
def closedAt (n : Nat) (l : List Int) (i : Nat) : Bool := allB (elems n (row l i)).length fun q => diff (row l ((elems n (row l i)).getD q 0)) (row l i) == 0
def isOrd (n : Int) (l : List Int) : Bool := isRel n l && allB l.length fun i => !B l i i && closedAt l.length l i
theorem better_eq {n : Nat} {l : List Int} (h : Rel n l) (m : Int) (i j : Nat) (hi : i < n) (hj : j ≤ 62) : impl_Order_better.f m l (i : Int) (j : Int) = some (B l i j) := by
  unfold impl_Order_better.f
  rw [if_pos (by omega), if_pos (by rw [h.len]; omega), if_pos (by omega), has_and _ _ (by rw [h.rd]; omega) (by rw [h.rd]; have := h.row_62 i; omega) (by omega), h.bit]
theorem diff_zero (a b : Nat) : (diff a b = 0) ↔ ∀ j, a.testBit j = true → b.testBit j = true := by
  constructor
  · intro h j hj
    have := testBit_diff a b j
    rw [h, hj] at this
    simpa using this.symm
  · intro h
    apply Nat.eq_of_testBit_eq
    intro j
    rw [testBit_diff]
    cases hj : a.testBit j with
    | false => simp
    | true => simp [h j hj]
theorem ints_getD (l : List Nat) (q : Nat) (h : q < l.length) : (ints l).getD q 0 = ((l.getD q 0 : Nat) : Int) := by simp [ints, h]
theorem closed_iff {n : Nat} {l : List Int} (h : Rel n l) (i : Nat) : closedAt n l i = true ↔ ∀ j k, B l i j = true → B l j k = true → B l i k = true := by
  unfold closedAt
  rw [allB_iff]
  constructor
  · intro H j k hij hjk
    have hm : j ∈ elems n (row l i) := mem_elems.2 ⟨h.B_lt hij, hij⟩
    obtain ⟨q, hq, e⟩ := List.getElem_of_mem hm
    have := H q hq
    rw [show (elems n (row l i)).getD q 0 = j by simp [hq, e], beq_iff_eq, diff_zero] at this
    exact this k hjk
  · intro H q hq
    rw [beq_iff_eq, diff_zero]
    intro k hk
    have hm : (elems n (row l i)).getD q 0 ∈ elems n (row l i) := by simp [hq]
    exact H _ k (mem_elems.1 hm).2 hk
structure Ord (n : Nat) (l : List Int) : Prop extends Rel n l where
  irr : ∀ i, B l i i = false
  trans : ∀ i j k, B l i j = true → B l j k = true → B l i k = true
theorem isOrd_iff {n : Int} {l : List Int} : isOrd n l = true ↔ ∃ m : Nat, n = m ∧ Ord m l := by
  unfold isOrd
  rw [Bool.and_eq_true, isRel_iff, allB_iff]
  constructor
  · rintro ⟨⟨m, rfl, h⟩, H⟩
    rw [h.len] at H
    refine ⟨m, rfl, h, fun i => ?_, fun i j k hij hjk => ?_⟩
    · cases hc : B l i i with
      | false => rfl
      | true =>
        have := H i (h.B_lt hc)
        rw [hc] at this
        simp at this
    · have := H i (h.B_lt' hij)
      rw [Bool.and_eq_true] at this
      exact (closed_iff h i).1 this.2 j k hij hjk
  · rintro ⟨m, rfl, h⟩
    refine ⟨⟨m, rfl, h.toRel⟩, fun i _ => ?_⟩
    rw [h.irr i, h.len, (closed_iff h.toRel i).2 (h.trans i)]
    rfl
theorem IsOrder_ev (n : Int) (l : List Int) (hl : l.length ≤ 140737488355328) : Ev (fun k => impl_IsOrder.f k n l) (isOrd n l) := by
  unfold impl_IsOrder.f isOrd
  refine Ev.bind (IsRelation_ev n l hl) ?_
  cases hr : isRel n l with
  | false => simp only [Bool.false_eq_true, if_false, Bool.false_and]; exact Ev.now _
  | true =>
    obtain ⟨m, rfl, h⟩ := isRel_iff.1 hr
    have hlen := h.len
    have h10 := h.le
    simp only [if_true, Bool.true_and]
    refine Ev.all (fun i k => impl_IsOrder.l0 k l (l.length : Int) (i : Int) (m : Int) l) l.length _ ?_ ?_ ?_
    · intro i r hi hp hrest
      rw [Bool.and_eq_true] at hp
      have hB : B l i i = false := by simpa using hp.1
      refine Ev.step (fun _ => rfl) ?_
      simp only [impl_IsOrder.l0, if_pos (show (i : Int) < (l.length : Int) by omega), if_pos (show (0 : Int) ≤ (i : Int) by omega), better_eq h _ i i (by omega) (by omega), Option.bind_some, hB, Bool.false_eq_true, if_false, h.rd]
      refine Ev.bind (members_ev m (by omega) (row l i) (h.row_lt i)) ?_
      have hE := elems_length_le m (row l i)
      rw [ints_length]
      refine Ev.up (fun q k => impl_IsOrder.l1 k ((row l i : Nat) : Int) l (l.length : Int) (i : Int) (ints (elems m (row l i))) ((elems m (row l i)).length : Int) (q : Int) (m : Int) l) (elems m (row l i)).length ?_ ?_
      · intro q hq hn
        refine Ev.step (fun _ => rfl) ?_
        have hmem : (elems m (row l i)).getD q 0 ∈ elems m (row l i) := by simp [hq]
        have hlt := (mem_elems.1 hmem).1
        have e0 : rd (ints (elems m (row l i))) (q : Int) = (((elems m (row l i)).getD q 0 : Nat) : Int) := by rw [rd_nat, ints_getD _ _ hq]
        have hd : diff (row l ((elems m (row l i)).getD q 0)) (row l i) = 0 := by
          have hc := hp.2
          unfold closedAt at hc
          rw [allB_iff, hlen] at hc
          exact beq_iff_eq.1 (hc q hq)
        simp only [impl_IsOrder.l1, if_pos (show (q : Int) < ((elems m (row l i)).length : Int) by omega), if_pos (show (0 : Int) ≤ (q : Int) by omega), ints_length, e0, if_pos (show (0 : Int) ≤ (((elems m (row l i)).getD q 0 : Nat) : Int) by omega), if_pos (show (((elems m (row l i)).getD q 0 : Nat) : Int) < (l.length : Int) by omega), h.rd, andNot_i64 _ _ (h.row_62 _) (h.row_62 _), hd, Int.natCast_zero, if_true, next64 q _ hq (by omega)]
        exact hn
      · refine Ev.step (fun _ => rfl) ?_
        simp only [impl_IsOrder.l1, if_neg (show ¬ ((elems m (row l i)).length : Int) < ((elems m (row l i)).length : Int) by omega), next64 i l.length hi (by omega)]
        exact hrest
    · intro i hi hp
      refine Ev.step (fun _ => rfl) ?_
      simp only [impl_IsOrder.l0, if_pos (show (i : Int) < (l.length : Int) by omega), if_pos (show (0 : Int) ≤ (i : Int) by omega), better_eq h _ i i (by omega) (by omega), Option.bind_some]
      cases hB : B l i i with
      | true => simp only [if_true]; exact Ev.now _
      | false =>
        rw [hB] at hp
        have hc : closedAt l.length l i = false := by simpa using hp
        unfold closedAt at hc
        rw [hlen] at hc
        obtain ⟨j, hj, hbad, hless⟩ := least_false (allB_false.1 hc)
        simp only [Bool.false_eq_true, if_false, h.rd]
        refine Ev.bind (members_ev m (by omega) (row l i) (h.row_lt i)) ?_
        have hE := elems_length_le m (row l i)
        rw [ints_length]
        refine Ev.up (fun q k => impl_IsOrder.l1 k ((row l i : Nat) : Int) l (l.length : Int) (i : Int) (ints (elems m (row l i))) ((elems m (row l i)).length : Int) (q : Int) (m : Int) l) j ?_ ?_
        · intro q hq hn
          refine Ev.step (fun _ => rfl) ?_
          have hmem : (elems m (row l i)).getD q 0 ∈ elems m (row l i) := by simp [show q < (elems m (row l i)).length by omega]
          have hlt := (mem_elems.1 hmem).1
          have e0 : rd (ints (elems m (row l i))) (q : Int) = (((elems m (row l i)).getD q 0 : Nat) : Int) := by rw [rd_nat, ints_getD _ _ (by omega)]
          have hd : diff (row l ((elems m (row l i)).getD q 0)) (row l i) = 0 := beq_iff_eq.1 (hless q hq)
          simp only [impl_IsOrder.l1, if_pos (show (q : Int) < ((elems m (row l i)).length : Int) by omega), if_pos (show (0 : Int) ≤ (q : Int) by omega), ints_length, e0, if_pos (show (0 : Int) ≤ (((elems m (row l i)).getD q 0 : Nat) : Int) by omega), if_pos (show (((elems m (row l i)).getD q 0 : Nat) : Int) < (l.length : Int) by omega), h.rd, andNot_i64 _ _ (h.row_62 _) (h.row_62 _), hd, Int.natCast_zero, if_true, next64 q _ (show q < (elems m (row l i)).length by omega) (by omega)]
          exact hn
        · refine Ev.step (fun _ => rfl) ?_
          have hmem : (elems m (row l i)).getD j 0 ∈ elems m (row l i) := by simp [hj]
          have hlt := (mem_elems.1 hmem).1
          have e0 : rd (ints (elems m (row l i))) (j : Int) = (((elems m (row l i)).getD j 0 : Nat) : Int) := by rw [rd_nat, ints_getD _ _ (by omega)]
          have hd : ¬ ((diff (row l ((elems m (row l i)).getD j 0)) (row l i) : Nat) : Int) = 0 := by
            have := beq_eq_false_iff_ne.1 hbad
            omega
          simp only [impl_IsOrder.l1, if_pos (show (j : Int) < ((elems m (row l i)).length : Int) by omega), if_pos (show (0 : Int) ≤ (j : Int) by omega), ints_length, e0, if_pos (show (0 : Int) ≤ (((elems m (row l i)).getD j 0 : Nat) : Int) by omega), if_pos (show (((elems m (row l i)).getD j 0 : Nat) : Int) < (l.length : Int) by omega), h.rd, andNot_i64 _ _ (h.row_62 _) (h.row_62 _), if_neg hd]
          exact Ev.now _
    · refine Ev.step (fun _ => rfl) ?_
      simp only [impl_IsOrder.l0, if_neg (show ¬ (l.length : Int) < (l.length : Int) by omega)]
      exact Ev.now _
end Go.Proofs.YtjdkcafpgebjfaaDoor.M
