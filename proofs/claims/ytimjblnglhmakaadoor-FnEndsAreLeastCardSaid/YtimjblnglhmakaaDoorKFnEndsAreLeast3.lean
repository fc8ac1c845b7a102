/- A part of the proof that the law FnEndsAreLeast holds at every input. Written by wip/pack.py: the kit's printed words that are used, the functions' walks as wip/gen.py prints them, and hand proofs. -/
import Derived.Test.YtimjblnglhmakaaDoorKFnEndsAreLeast2
namespace Go.Proofs.YtimjblnglhmakaaDoor.P
open Go.RowKit Go.Proofs.YtimjblnglhmakaaDoorW.PrintWords Go.Proofs.YtimjblnglhmakaaDoorW.PrintLast Go.Proofs.YtimjblnglhmakaaDoorW.PrintMore
open Bool renaming true → T, false → F
open List renaming setIfInBounds_toArray → L_, set_cons_zero → M_, set_cons_succ → N_, map_toArray → P_, map_cons → Q_, map_nil → R_, length_drop → S_, length_take → U_
open Aside0 renaming mk → A_
attribute [local go_sem] max2_int min2_int max_two min_two max_three min_three max_four min_four
set_option linter.unusedVariables false
set_option linter.unusedSimpArgs false
attribute [local go_sem] fldOrder_0 fldOrder_1
mutual
def laws_FnEndsAreLeast.j0 : Nat → List (S62) → Bool → Bool → Int → List Int → Option (Bool)
 | 0,_,_,_,_,_=>none
 | k + 1,x5,x9,x54,x1322000,x1322001=>if x54 = true then (some false) else (if x9 = true then ((impl_EndsOf.f k x1322000 x1322001).bind fun bt1330=>((spec_EndsOf.f k x1322000 x1322001).bind fun bt1334=>((impl_DoRepresent.f k bt1330.1 x1322000 x1322001).bind fun bt1338=>((impl_AreLeastEnds.f k bt1330.1).bind fun bt1340=>(if bt1330.2 = true then (if bt1334.2 = true then (if bt1338.2 = true then (if bt1340.2 = true then (if bt1338.1 = true then (if bt1340.1 = true then ((laws_pSameIntervals.f k bt1330.1 bt1334.1).bind fun t1342=>(laws_FnEndsAreLeast.j1 k x5 bt1330.1 (!t1342))) else (laws_FnEndsAreLeast.j1 k x5 bt1330.1 true)) else (laws_FnEndsAreLeast.j1 k x5 bt1330.1 true)) else (laws_FnEndsAreLeast.j1 k x5 bt1330.1 true)) else (laws_FnEndsAreLeast.j1 k x5 bt1330.1 true)) else (laws_FnEndsAreLeast.j1 k x5 bt1330.1 true)) else (laws_FnEndsAreLeast.j1 k x5 bt1330.1 true)))))) else (some true))
def laws_FnEndsAreLeast.j1 : Nat → List (S62) → List (S62) → Bool → Option (Bool)
 | 0,_,_,_=>none
 | k + 1,x5,x10,x105=>if x105 = true then (some false) else (laws_FnEndsAreLeast.l0 k x5 x10 0 x5 (x5.length : Int) 0)
def laws_FnEndsAreLeast.l0 : Nat → List (S62) → List (S62) → Int → List (S62) → Int → Int → Option (Bool)
 | 0,_,_,_,_,_,_=>none
 | k + 1,x5,x10,x18,x106,x107,x108=>if x108 < x107 then (if 0 ≤ x108 then (if x108 < (x106.length : Int) then (if ((rd_T62 x106 x108).f0) < x18 then (laws_FnEndsAreLeast.l0 k x5 x10 ((rd_T62 x106 x108).f0) x106 x107 (wrap64 (x108 + 1))) else (laws_FnEndsAreLeast.l0 k x5 x10 x18 x106 x107 (wrap64 (x108 + 1)))) else (none)) else (none)) else (laws_FnEndsAreLeast.l1 k x5 x10 x18 x10 (x10.length : Int) 0)
def laws_FnEndsAreLeast.l1 : Nat → List (S62) → List (S62) → Int → List (S62) → Int → Int → Option (Bool)
 | 0,_,_,_,_,_,_=>none
 | k + 1,x5,x10,x18,x119,x120,x121=>if x121 < x120 then (if 0 ≤ x121 then (if x121 < (x119.length : Int) then (if x121 < (x5.length : Int) then (if ((rd_T62 x119 x121).f0) > (wrap64 (((rd_T62 x5 x121).f0) - x18)) then (some false) else (if ((rd_T62 x119 x121).f1) > (wrap64 (((rd_T62 x5 x121).f1) - x18)) then (some false) else (laws_FnEndsAreLeast.l1 k x5 x10 x18 x119 x120 (wrap64 (x121 + 1))))) else (none)) else (none)) else (none)) else ((impl_AreLeastEnds.f k x5).bind fun bt1349=>(if bt1349.2 = true then ((laws_pSameIntervals.f k x5 x10).bind fun t1351=>(some (bt1349.1 == t1351))) else (some false)))
end
def laws_FnEndsAreLeast.f (k : Nat) (l0 : List Int) (l1 : List Int) : Option (Bool) := (laws_big.f l0 l1).bind fun t1312 => (if t1312 = true then (some true) else ((spec_DrawOrderOfIntervals.f k l0).bind fun t1313 => ((impl_OrderOfIntervals.f k t1313).bind fun bt1316 => ((spec_OrderOfIntervals.f k t1313).bind fun bt1322 => (if (bt1316.2.2 != bt1322.2.2) = true then (laws_FnEndsAreLeast.j0 k t1313 bt1322.2.2 true bt1316.1 bt1316.2.1) else ((laws_pSameOrder.f k bt1316.1 bt1316.2.1 bt1322.1 bt1322.2.1).bind fun t1328 => (if t1328 = true then ((impl_AreIntervals.f k t1313).bind fun t1329 => (laws_FnEndsAreLeast.j0 k t1313 bt1322.2.2 (bt1316.2.2 != t1329) bt1316.1 bt1316.2.1)) else (laws_FnEndsAreLeast.j0 k t1313 bt1322.2.2 true bt1316.1 bt1316.2.1))))))))
set_option maxHeartbeats 8000000 in
set_option maxRecDepth 100000 in
theorem laws_FnEndsAreLeast.calls (k : Nat) (A0 : Option Addr) (c0 : Nat) (l0 : List Int) (A1 : Option Addr) (c1 : Nat) (l1 : List Int) (r : Bool) (w : World) (hr0 : Kd.C (Kd.int .u8) w A0 l0.length l0) (hc0 : l0.length ≤ c0) (hr1 : Kd.C (Kd.int .u8) w A1 l1.length l1) (hc1 : l1.length ≤ c1) (hT : TabOK w) (h : laws_FnEndsAreLeast.f k l0 l1 = some r) :
 Calls Tryd.prog 6 #[.slice A0 l0.length c0,.slice A1 l1.length c1] w fun e w'=>e = .returned (.bool r) ∧ Below w.heap.size w w':=by
 have hu28:=Tryd.underlying28;have hu62:=Tryd.underlying62;have HT:=A_ hT;clear hT;have HR0:=A_ hr0;have HC0:=A_ hc0;clear hr0 hc0;have HR1:=A_ hr1;have HC1:=A_ hc1;clear hr1 hc1;have HB:=A_ (Below.refl w.heap.size w);have H : ((laws_big.f l0 l1).bind fun t1312=>(if t1312 = true then (some true) else ((spec_DrawOrderOfIntervals.f k l0).bind fun t1313=>((impl_OrderOfIntervals.f k t1313).bind fun bt1316=>((spec_OrderOfIntervals.f k t1313).bind fun bt1322=>(if (bt1316.2.2 != bt1322.2.2) = true then (laws_FnEndsAreLeast.j0 k t1313 bt1322.2.2 true bt1316.1 bt1316.2.1) else ((laws_pSameOrder.f k bt1316.1 bt1316.2.1 bt1322.1 bt1322.2.1).bind fun t1328=>(if t1328 = true then ((impl_AreIntervals.f k t1313).bind fun t1329=>(laws_FnEndsAreLeast.j0 k t1313 bt1322.2.2 (bt1316.2.2 != t1329) bt1316.1 bt1316.2.1)) else (laws_FnEndsAreLeast.j0 k t1313 bt1322.2.2 true bt1316.1 bt1316.2.1))))))))) = some r:=h;clear h;replace H:=Option.bind_eq_some_iff.mp H;obtain ⟨t1312,A30,H⟩:=H;replace H : (if t1312 = true then (some true) else ((spec_DrawOrderOfIntervals.f k l0).bind fun t1313=>((impl_OrderOfIntervals.f k t1313).bind fun bt1316=>((spec_OrderOfIntervals.f k t1313).bind fun bt1322=>(if (bt1316.2.2 != bt1322.2.2) = true then (laws_FnEndsAreLeast.j0 k t1313 bt1322.2.2 true bt1316.1 bt1316.2.1) else ((laws_pSameOrder.f k bt1316.1 bt1316.2.1 bt1322.1 bt1322.2.1).bind fun t1328=>(if t1328 = true then ((impl_AreIntervals.f k t1313).bind fun t1329=>(laws_FnEndsAreLeast.j0 k t1313 bt1322.2.2 (bt1316.2.2 != t1329) bt1316.1 bt1316.2.1)) else (laws_FnEndsAreLeast.j0 k t1313 bt1322.2.2 true bt1316.1 bt1316.2.1)))))))) = some r:=H;have A3:=A_ A30;clear A30;by_cases c4 : t1312 = true
 ·subst c4;have H1 : (some true) = some r:=by rw [if_pos rfl] at H;exact H
  clear H;have H:=H1;clear H1;obtain rfl:=Option.some.inj H;go_enter Tryd.func6,Tryd.ntmps6
  go_wp2_with (first|(go_at_call 25;(with_reducible refine (laws_big.calls _ _ l0 _ _ l1 true _ ?side1 ?side2 ?side3 ?side4 A3.out).mono ?_);(case side1=>repeat (first|exact HR0.out|(with_reducible refine Kd.C_alloc ?_ _)|(with_reducible refine Kd.C_drewN ?_ _)|(with_reducible refine Kd.C_drew ?_)));(case side2=>exact HC0.out);(case side3=>repeat (first|exact HR1.out|(with_reducible refine Kd.C_alloc ?_ _)|(with_reducible refine Kd.C_drewN ?_ _)|(with_reducible refine Kd.C_drew ?_)));(case side4=>exact HC1.out);rintro e w' ⟨rfl,⟨nd,rfl⟩⟩;(try first|exact ⟨rfl,_,World.drewN_drewN _ _ _⟩|exact ⟨rfl,_,Eq.trans (World.drewN_drewN _ _ _) (congrArg (World.drewN _) (Nat.add_assoc _ _ _))⟩)))
  repeat (go_quiet (first|(go_at_call 25;(with_reducible refine (laws_big.calls _ _ l0 _ _ l1 true _ ?side1 ?side2 ?side3 ?side4 A3.out).mono ?_);(case side1=>repeat (first|exact HR0.out|(with_reducible refine Kd.C_alloc ?_ _)|(with_reducible refine Kd.C_drewN ?_ _)|(with_reducible refine Kd.C_drew ?_)));(case side2=>exact HC0.out);(case side3=>repeat (first|exact HR1.out|(with_reducible refine Kd.C_alloc ?_ _)|(with_reducible refine Kd.C_drewN ?_ _)|(with_reducible refine Kd.C_drew ?_)));(case side4=>exact HC1.out);rintro e w' ⟨rfl,⟨nd,rfl⟩⟩;(try first|exact ⟨rfl,_,World.drewN_drewN _ _ _⟩|exact ⟨rfl,_,Eq.trans (World.drewN_drewN _ _ _) (congrArg (World.drewN _) (Nat.add_assoc _ _ _))⟩)));try go_wp2_with (first|(go_at_call 25;(with_reducible refine (laws_big.calls _ _ l0 _ _ l1 true _ ?side1 ?side2 ?side3 ?side4 A3.out).mono ?_);(case side1=>repeat (first|exact HR0.out|(with_reducible refine Kd.C_alloc ?_ _)|(with_reducible refine Kd.C_drewN ?_ _)|(with_reducible refine Kd.C_drew ?_)));(case side2=>exact HC0.out);(case side3=>repeat (first|exact HR1.out|(with_reducible refine Kd.C_alloc ?_ _)|(with_reducible refine Kd.C_drewN ?_ _)|(with_reducible refine Kd.C_drew ?_)));(case side4=>exact HC1.out);rintro e w' ⟨rfl,⟨nd,rfl⟩⟩;(try first|exact ⟨rfl,_,World.drewN_drewN _ _ _⟩|exact ⟨rfl,_,Eq.trans (World.drewN_drewN _ _ _) (congrArg (World.drewN _) (Nat.add_assoc _ _ _))⟩))))
  go_ret
  exact ⟨by first|rfl|(simp [errW_none,errW_some] <;> rfl)|(simp [*,errW_none,errW_some] <;> rfl),bb_⟩
 ·replace c4:=Bool.eq_false_iff.mpr c4;subst c4;have H1 : ((spec_DrawOrderOfIntervals.f k l0).bind fun t1313=>((impl_OrderOfIntervals.f k t1313).bind fun bt1316=>((spec_OrderOfIntervals.f k t1313).bind fun bt1322=>(if (bt1316.2.2 != bt1322.2.2) = true then (laws_FnEndsAreLeast.j0 k t1313 bt1322.2.2 true bt1316.1 bt1316.2.1) else ((laws_pSameOrder.f k bt1316.1 bt1316.2.1 bt1322.1 bt1322.2.1).bind fun t1328=>(if t1328 = true then ((impl_AreIntervals.f k t1313).bind fun t1329=>(laws_FnEndsAreLeast.j0 k t1313 bt1322.2.2 (bt1316.2.2 != t1329) bt1316.1 bt1316.2.1)) else (laws_FnEndsAreLeast.j0 k t1313 bt1322.2.2 true bt1316.1 bt1316.2.1))))))) = some r:=by rw [if_neg (show ¬ (false = true) by decide)] at H;exact H
  clear H;have H:=H1;clear H1;replace H:=Option.bind_eq_some_iff.mp H;obtain ⟨t1313,A50,H⟩:=H;replace H : ((impl_OrderOfIntervals.f k t1313).bind fun bt1316=>((spec_OrderOfIntervals.f k t1313).bind fun bt1322=>(if (bt1316.2.2 != bt1322.2.2) = true then (laws_FnEndsAreLeast.j0 k t1313 bt1322.2.2 true bt1316.1 bt1316.2.1) else ((laws_pSameOrder.f k bt1316.1 bt1316.2.1 bt1322.1 bt1322.2.1).bind fun t1328=>(if t1328 = true then ((impl_AreIntervals.f k t1313).bind fun t1329=>(laws_FnEndsAreLeast.j0 k t1313 bt1322.2.2 (bt1316.2.2 != t1329) bt1316.1 bt1316.2.1)) else (laws_FnEndsAreLeast.j0 k t1313 bt1322.2.2 true bt1316.1 bt1316.2.1)))))) = some r:=H;have A5:=A_ A50;clear A50;replace H:=Option.bind_eq_some_iff.mp H;obtain ⟨⟨t1316,t1317,t1320⟩,A60,H⟩:=H;replace H : ((spec_OrderOfIntervals.f k t1313).bind fun bt1322=>(if (t1320 != bt1322.2.2) = true then (laws_FnEndsAreLeast.j0 k t1313 bt1322.2.2 true t1316 t1317) else ((laws_pSameOrder.f k t1316 t1317 bt1322.1 bt1322.2.1).bind fun t1328=>(if t1328 = true then ((impl_AreIntervals.f k t1313).bind fun t1329=>(laws_FnEndsAreLeast.j0 k t1313 bt1322.2.2 (t1320 != t1329) t1316 t1317)) else (laws_FnEndsAreLeast.j0 k t1313 bt1322.2.2 true t1316 t1317))))) = some r:=H;have A6:=A_ A60;clear A60;replace H:=Option.bind_eq_some_iff.mp H;obtain ⟨⟨t1322,t1323,t1326⟩,A70,H⟩:=H;replace H : (if (t1320 != t1326) = true then (laws_FnEndsAreLeast.j0 k t1313 t1326 true t1316 t1317) else ((laws_pSameOrder.f k t1316 t1317 t1322 t1323).bind fun t1328=>(if t1328 = true then ((impl_AreIntervals.f k t1313).bind fun t1329=>(laws_FnEndsAreLeast.j0 k t1313 t1326 (t1320 != t1329) t1316 t1317)) else (laws_FnEndsAreLeast.j0 k t1313 t1326 true t1316 t1317)))) = some r:=H;have A7:=A_ A70;clear A70;have HC8:=A_ H;clear H;go_enter Tryd.func6,Tryd.ntmps6
  go_upto_region 6 with (first|(go_at_call 25;(with_reducible refine (laws_big.calls _ _ l0 _ _ l1 false _ ?side1 ?side2 ?side3 ?side4 A3.out).mono ?_);(case side1=>repeat (first|exact HR0.out|(with_reducible refine Kd.C_alloc ?_ _)|(with_reducible refine Kd.C_drewN ?_ _)|(with_reducible refine Kd.C_drew ?_)));(case side2=>exact HC0.out);(case side3=>repeat (first|exact HR1.out|(with_reducible refine Kd.C_alloc ?_ _)|(with_reducible refine Kd.C_drewN ?_ _)|(with_reducible refine Kd.C_drew ?_)));(case side4=>exact HC1.out);rintro e w' ⟨rfl,⟨nd,rfl⟩⟩;(try first|exact ⟨rfl,_,World.drewN_drewN _ _ _⟩|exact ⟨rfl,_,Eq.trans (World.drewN_drewN _ _ _) (congrArg (World.drewN _) (Nat.add_assoc _ _ _))⟩))|(go_at_call 43;(with_reducible refine (spec_DrawOrderOfIntervals.calls k _ _ l0 t1313 _ ?side1 ?side2 A5.out).mono ?_);(case side1=>repeat (first|exact HR0.out|(with_reducible refine Kd.C_alloc ?_ _)|(with_reducible refine Kd.C_drewN ?_ _)|(with_reducible refine Kd.C_drew ?_)));(case side2=>exact HC0.out);rintro e w9 ⟨v1314,rfl,ho0,hb⟩;have HO1315:=A_ (Kd.R_lower ho0 (below_size bb_));replace HB:=A_ (below_step bb_ hb);(try clear hb);(try clear hb2);(try clear hk);(try clear hi);(try clear ho0);obtain ⟨Ao10,co10,eo10⟩:=Kd.R_slice HO1315.out;subst eo10)|(go_at_call 44;(with_reducible refine (impl_OrderOfIntervals.calls k _ _ t1313 t1316 t1317 t1320 _ ?side1 ?side2 A6.out).mono ?_);(case side1=>exact cl_ (Kd.R_reads' HO1315.out).2.2);(case side2=>exact (Kd.R_reads' HO1315.out).2.1);rintro e w11 ⟨v1318,rfl,ho0,hb⟩;replace HO1315:=rb_ HO1315 hb;have HO1319:=A_ (Kd.R_lower ho0 (below_size bb_));replace HB:=A_ (below_step bb_ hb);(try clear hb);(try clear hb2);(try clear hk);(try clear hi);(try clear ho0))|((with_reducible refine gate_dst (N:=6) rfl ?_);refine box_event ?hg (N:=6) ?hd (cs:=#[.int .i64 0,.slice none 0 0]) (t:=28) ?hr ?_;(case hd=>rfl);(case hg=>rfl);(case hr=>first|(go_simp;done)|(go_simp;rfl));intro gb1321 hg w12 hbox hb;replace HO1315:=rb_ HO1315 hb;replace HO1319:=rb_ HO1319 hb;have BK1321:=A_ (hbox);have GW1321:=A_ ((by rw [hg];exact (below_size bb_) : w.heap.size ≤ gb1321));have GE1321:=A_ ((by rw [hg];exact (below_size bb_) : w.heap.size ≤ gb1321));replace HB:=A_ (below_step bb_ hb);clear hb hbox hg;have hcz13_0 : w12.cell? ⟨gb1321,0,none⟩ = some (.int .i64 0):=blk_cell BK1321.out 0;have hcz13_1 : w12.cell? ⟨gb1321,1,none⟩ = some (.slice none 0 0):=blk_cell BK1321.out 1;have hfz13_0:=blk_frozen BK1321.out 0;have hfz13_1:=blk_frozen BK1321.out 1;obtain ⟨Ao14,co14,eo14⟩:=Kd.R_slice HO1319.out;subst eo14)|(go_at_call 45;(with_reducible refine (spec_OrderOfIntervals.calls k _ _ t1313 t1322 t1323 t1326 _ ?side1 ?side2 A7.out).mono ?_);(case side1=>refine (Kd.R_reads' (e:=62) (base:=w.heap.size) (ok:=fun k_=>True) (n:=t1313.length) (c:=co10) ?_).2.2;exact (by (with_reducible repeat (first|apply Kd.R_alloc|apply Kd.R_drewN|apply Kd.R_drew));exact (Kd.R_mono (Kd.R_far (p:=⟨gb1321,1,none⟩) (Kd.R_far (p:=⟨gb1321,0,none⟩) (Kd.R_types HO1315.out BK1321.out (by decide)) (fun _ hk=>hk.2) (.int .i64 t1316)) (fun _ hk=>hk.2) (.slice Ao14 t1317.length co14)) (fun _ h_=>h_.1))));(case side2=>exact (Kd.R_reads' HO1315.out).2.1);rintro e w15 ⟨v1324,rfl,ho0,hb⟩;replace HO1315:=A_ (Kd.R_below (by (with_reducible repeat (first|apply Kd.R_alloc|apply Kd.R_drewN|apply Kd.R_drew));exact (Kd.R_mono (Kd.R_far (p:=⟨gb1321,1,none⟩) (Kd.R_far (p:=⟨gb1321,0,none⟩) (Kd.R_types HO1315.out BK1321.out (by decide)) (fun _ hk=>hk.2) (.int .i64 t1316)) (fun _ hk=>hk.2) (.slice Ao14 t1317.length co14)) (fun _ h_=>h_.1))) hb);have HO1325:=A_ (Kd.R_lower (Kd.R_new' ho0 (Kd.R_lt (by (with_reducible repeat (first|apply Kd.R_alloc|apply Kd.R_drewN|apply Kd.R_drew));exact (Kd.R_mono (Kd.R_far (p:=⟨gb1321,1,none⟩) (Kd.R_far (p:=⟨gb1321,0,none⟩) (Kd.R_types HO1319.out BK1321.out (by decide)) (fun _ hk=>hk.2) (.int .i64 t1316)) (fun _ hk=>hk.2) (.slice Ao14 t1317.length co14)) (fun _ h_=>h_.1))))) (below_size bb_));replace HO1319:=A_ (Kd.R_elder' (by (with_reducible repeat (first|apply Kd.R_alloc|apply Kd.R_drewN|apply Kd.R_drew));exact (Kd.R_mono (Kd.R_far (p:=⟨gb1321,1,none⟩) (Kd.R_far (p:=⟨gb1321,0,none⟩) (Kd.R_types HO1319.out BK1321.out (by decide)) (fun _ hk=>hk.2) (.int .i64 t1316)) (fun _ hk=>hk.2) (.slice Ao14 t1317.length co14)) (fun _ h_=>h_.1))) (Kd.R_base ho0) hb);replace BK1321:=A_ (blk_below (g:=gb1321) (o:=.cells #[.int .i64 t1316,.slice Ao14 t1317.length co14] 28 (0,0)) (by (with_reducible repeat (first|refine blk_drewN ?_ _|refine blk_drew ?_|refine blk_alloc ?_ _));refine blk_put (cs:=#[.int .i64 t1316,.slice none 0 0]) ?_ 1 _ rfl;(with_reducible repeat (first|refine blk_drewN ?_ _|refine blk_drew ?_|refine blk_alloc ?_ _));refine blk_put (cs:=#[.int .i64 0,.slice none 0 0]) ?_ 0 _ rfl;(with_reducible repeat (first|refine blk_drewN ?_ _|refine blk_drew ?_|refine blk_alloc ?_ _));exact BK1321.out) hb);replace HB:=A_ (below_step bb_ hb);(try clear hb);(try clear hb2);(try clear hk);(try clear hi);(try clear ho0))|((with_reducible refine gate_dst (N:=8) rfl ?_);refine box_event ?hg (N:=8) ?hd (cs:=#[.int .i64 0,.slice none 0 0]) (t:=28) ?hr ?_;(case hd=>rfl);(case hg=>rfl);(case hr=>first|(go_simp;done)|(go_simp;rfl));intro gb1327 hg w16 hbox hb;replace HO1315:=rb_ HO1315 hb;replace HO1319:=rb_ HO1319 hb;replace HO1325:=rb_ HO1325 hb;have BK1327:=A_ (hbox);have GW1327:=A_ ((by rw [hg];exact (below_size bb_) : w.heap.size ≤ gb1327));have GE1327:=A_ ((by rw [hg];exact (below_size bb_) : w.heap.size ≤ gb1327));replace HB:=A_ (below_step bb_ hb);have NB1321_1327:=A_ ((by rw [hg];exact Nat.ne_of_lt (blk_lt (bl_ BK1321)) : gb1321 ≠ gb1327));have NB1327_1321:=A_ ((by rw [hg];exact Nat.ne_of_gt (blk_lt (bl_ BK1321)) : gb1327 ≠ gb1321));replace BK1321:=bz BK1321 hb;clear hb hbox hg;have hnb17:=NB1327_1321.out;have hnc17:=NB1321_1327.out;have hcz18_0 : w16.cell? ⟨gb1327,0,none⟩ = some (.int .i64 0):=blk_cell BK1327.out 0;have hcz18_1 : w16.cell? ⟨gb1327,1,none⟩ = some (.slice none 0 0):=blk_cell BK1327.out 1;have hfz18_0:=blk_frozen BK1327.out 0;have hfz18_1:=blk_frozen BK1327.out 1;obtain ⟨Ao19,co19,eo19⟩:=Kd.R_slice HO1325.out;subst eo19))
  repeat (go_quiet (first|(go_at_call 25;(with_reducible refine (laws_big.calls _ _ l0 _ _ l1 false _ ?side1 ?side2 ?side3 ?side4 A3.out).mono ?_);(case side1=>repeat (first|exact HR0.out|(with_reducible refine Kd.C_alloc ?_ _)|(with_reducible refine Kd.C_drewN ?_ _)|(with_reducible refine Kd.C_drew ?_)));(case side2=>exact HC0.out);(case side3=>repeat (first|exact HR1.out|(with_reducible refine Kd.C_alloc ?_ _)|(with_reducible refine Kd.C_drewN ?_ _)|(with_reducible refine Kd.C_drew ?_)));(case side4=>exact HC1.out);rintro e w' ⟨rfl,⟨nd,rfl⟩⟩;(try first|exact ⟨rfl,_,World.drewN_drewN _ _ _⟩|exact ⟨rfl,_,Eq.trans (World.drewN_drewN _ _ _) (congrArg (World.drewN _) (Nat.add_assoc _ _ _))⟩))|(go_at_call 43;(with_reducible refine (spec_DrawOrderOfIntervals.calls k _ _ l0 t1313 _ ?side1 ?side2 A5.out).mono ?_);(case side1=>repeat (first|exact HR0.out|(with_reducible refine Kd.C_alloc ?_ _)|(with_reducible refine Kd.C_drewN ?_ _)|(with_reducible refine Kd.C_drew ?_)));(case side2=>exact HC0.out);rintro e w9 ⟨v1314,rfl,ho0,hb⟩;have HO1315:=A_ (Kd.R_lower ho0 (below_size bb_));replace HB:=A_ (below_step bb_ hb);(try clear hb);(try clear hb2);(try clear hk);(try clear hi);(try clear ho0);obtain ⟨Ao10,co10,eo10⟩:=Kd.R_slice HO1315.out;subst eo10)|(go_at_call 44;(with_reducible refine (impl_OrderOfIntervals.calls k _ _ t1313 t1316 t1317 t1320 _ ?side1 ?side2 A6.out).mono ?_);(case side1=>exact cl_ (Kd.R_reads' HO1315.out).2.2);(case side2=>exact (Kd.R_reads' HO1315.out).2.1);rintro e w11 ⟨v1318,rfl,ho0,hb⟩;replace HO1315:=rb_ HO1315 hb;have HO1319:=A_ (Kd.R_lower ho0 (below_size bb_));replace HB:=A_ (below_step bb_ hb);(try clear hb);(try clear hb2);(try clear hk);(try clear hi);(try clear ho0))|((with_reducible refine gate_dst (N:=6) rfl ?_);refine box_event ?hg (N:=6) ?hd (cs:=#[.int .i64 0,.slice none 0 0]) (t:=28) ?hr ?_;(case hd=>rfl);(case hg=>rfl);(case hr=>first|(go_simp;done)|(go_simp;rfl));intro gb1321 hg w12 hbox hb;replace HO1315:=rb_ HO1315 hb;replace HO1319:=rb_ HO1319 hb;have BK1321:=A_ (hbox);have GW1321:=A_ ((by rw [hg];exact (below_size bb_) : w.heap.size ≤ gb1321));have GE1321:=A_ ((by rw [hg];exact (below_size bb_) : w.heap.size ≤ gb1321));replace HB:=A_ (below_step bb_ hb);clear hb hbox hg;have hcz13_0 : w12.cell? ⟨gb1321,0,none⟩ = some (.int .i64 0):=blk_cell BK1321.out 0;have hcz13_1 : w12.cell? ⟨gb1321,1,none⟩ = some (.slice none 0 0):=blk_cell BK1321.out 1;have hfz13_0:=blk_frozen BK1321.out 0;have hfz13_1:=blk_frozen BK1321.out 1;obtain ⟨Ao14,co14,eo14⟩:=Kd.R_slice HO1319.out;subst eo14)|(go_at_call 45;(with_reducible refine (spec_OrderOfIntervals.calls k _ _ t1313 t1322 t1323 t1326 _ ?side1 ?side2 A7.out).mono ?_);(case side1=>refine (Kd.R_reads' (e:=62) (base:=w.heap.size) (ok:=fun k_=>True) (n:=t1313.length) (c:=co10) ?_).2.2;exact (by (with_reducible repeat (first|apply Kd.R_alloc|apply Kd.R_drewN|apply Kd.R_drew));exact (Kd.R_mono (Kd.R_far (p:=⟨gb1321,1,none⟩) (Kd.R_far (p:=⟨gb1321,0,none⟩) (Kd.R_types HO1315.out BK1321.out (by decide)) (fun _ hk=>hk.2) (.int .i64 t1316)) (fun _ hk=>hk.2) (.slice Ao14 t1317.length co14)) (fun _ h_=>h_.1))));(case side2=>exact (Kd.R_reads' HO1315.out).2.1);rintro e w15 ⟨v1324,rfl,ho0,hb⟩;replace HO1315:=A_ (Kd.R_below (by (with_reducible repeat (first|apply Kd.R_alloc|apply Kd.R_drewN|apply Kd.R_drew));exact (Kd.R_mono (Kd.R_far (p:=⟨gb1321,1,none⟩) (Kd.R_far (p:=⟨gb1321,0,none⟩) (Kd.R_types HO1315.out BK1321.out (by decide)) (fun _ hk=>hk.2) (.int .i64 t1316)) (fun _ hk=>hk.2) (.slice Ao14 t1317.length co14)) (fun _ h_=>h_.1))) hb);have HO1325:=A_ (Kd.R_lower (Kd.R_new' ho0 (Kd.R_lt (by (with_reducible repeat (first|apply Kd.R_alloc|apply Kd.R_drewN|apply Kd.R_drew));exact (Kd.R_mono (Kd.R_far (p:=⟨gb1321,1,none⟩) (Kd.R_far (p:=⟨gb1321,0,none⟩) (Kd.R_types HO1319.out BK1321.out (by decide)) (fun _ hk=>hk.2) (.int .i64 t1316)) (fun _ hk=>hk.2) (.slice Ao14 t1317.length co14)) (fun _ h_=>h_.1))))) (below_size bb_));replace HO1319:=A_ (Kd.R_elder' (by (with_reducible repeat (first|apply Kd.R_alloc|apply Kd.R_drewN|apply Kd.R_drew));exact (Kd.R_mono (Kd.R_far (p:=⟨gb1321,1,none⟩) (Kd.R_far (p:=⟨gb1321,0,none⟩) (Kd.R_types HO1319.out BK1321.out (by decide)) (fun _ hk=>hk.2) (.int .i64 t1316)) (fun _ hk=>hk.2) (.slice Ao14 t1317.length co14)) (fun _ h_=>h_.1))) (Kd.R_base ho0) hb);replace BK1321:=A_ (blk_below (g:=gb1321) (o:=.cells #[.int .i64 t1316,.slice Ao14 t1317.length co14] 28 (0,0)) (by (with_reducible repeat (first|refine blk_drewN ?_ _|refine blk_drew ?_|refine blk_alloc ?_ _));refine blk_put (cs:=#[.int .i64 t1316,.slice none 0 0]) ?_ 1 _ rfl;(with_reducible repeat (first|refine blk_drewN ?_ _|refine blk_drew ?_|refine blk_alloc ?_ _));refine blk_put (cs:=#[.int .i64 0,.slice none 0 0]) ?_ 0 _ rfl;(with_reducible repeat (first|refine blk_drewN ?_ _|refine blk_drew ?_|refine blk_alloc ?_ _));exact BK1321.out) hb);replace HB:=A_ (below_step bb_ hb);(try clear hb);(try clear hb2);(try clear hk);(try clear hi);(try clear ho0))|((with_reducible refine gate_dst (N:=8) rfl ?_);refine box_event ?hg (N:=8) ?hd (cs:=#[.int .i64 0,.slice none 0 0]) (t:=28) ?hr ?_;(case hd=>rfl);(case hg=>rfl);(case hr=>first|(go_simp;done)|(go_simp;rfl));intro gb1327 hg w16 hbox hb;replace HO1315:=rb_ HO1315 hb;replace HO1319:=rb_ HO1319 hb;replace HO1325:=rb_ HO1325 hb;have BK1327:=A_ (hbox);have GW1327:=A_ ((by rw [hg];exact (below_size bb_) : w.heap.size ≤ gb1327));have GE1327:=A_ ((by rw [hg];exact (below_size bb_) : w.heap.size ≤ gb1327));replace HB:=A_ (below_step bb_ hb);have NB1321_1327:=A_ ((by rw [hg];exact Nat.ne_of_lt (blk_lt (bl_ BK1321)) : gb1321 ≠ gb1327));have NB1327_1321:=A_ ((by rw [hg];exact Nat.ne_of_gt (blk_lt (bl_ BK1321)) : gb1327 ≠ gb1321));replace BK1321:=bz BK1321 hb;clear hb hbox hg;have hnb17:=NB1327_1321.out;have hnc17:=NB1321_1327.out;have hcz18_0 : w16.cell? ⟨gb1327,0,none⟩ = some (.int .i64 0):=blk_cell BK1327.out 0;have hcz18_1 : w16.cell? ⟨gb1327,1,none⟩ = some (.slice none 0 0):=blk_cell BK1327.out 1;have hfz18_0:=blk_frozen BK1327.out 0;have hfz18_1:=blk_frozen BK1327.out 1;obtain ⟨Ao19,co19,eo19⟩:=Kd.R_slice HO1325.out;subst eo19));go_upto_region 6 with (first|(go_at_call 25;(with_reducible refine (laws_big.calls _ _ l0 _ _ l1 false _ ?side1 ?side2 ?side3 ?side4 A3.out).mono ?_);(case side1=>repeat (first|exact HR0.out|(with_reducible refine Kd.C_alloc ?_ _)|(with_reducible refine Kd.C_drewN ?_ _)|(with_reducible refine Kd.C_drew ?_)));(case side2=>exact HC0.out);(case side3=>repeat (first|exact HR1.out|(with_reducible refine Kd.C_alloc ?_ _)|(with_reducible refine Kd.C_drewN ?_ _)|(with_reducible refine Kd.C_drew ?_)));(case side4=>exact HC1.out);rintro e w' ⟨rfl,⟨nd,rfl⟩⟩;(try first|exact ⟨rfl,_,World.drewN_drewN _ _ _⟩|exact ⟨rfl,_,Eq.trans (World.drewN_drewN _ _ _) (congrArg (World.drewN _) (Nat.add_assoc _ _ _))⟩))|(go_at_call 43;(with_reducible refine (spec_DrawOrderOfIntervals.calls k _ _ l0 t1313 _ ?side1 ?side2 A5.out).mono ?_);(case side1=>repeat (first|exact HR0.out|(with_reducible refine Kd.C_alloc ?_ _)|(with_reducible refine Kd.C_drewN ?_ _)|(with_reducible refine Kd.C_drew ?_)));(case side2=>exact HC0.out);rintro e w9 ⟨v1314,rfl,ho0,hb⟩;have HO1315:=A_ (Kd.R_lower ho0 (below_size bb_));replace HB:=A_ (below_step bb_ hb);(try clear hb);(try clear hb2);(try clear hk);(try clear hi);(try clear ho0);obtain ⟨Ao10,co10,eo10⟩:=Kd.R_slice HO1315.out;subst eo10)|(go_at_call 44;(with_reducible refine (impl_OrderOfIntervals.calls k _ _ t1313 t1316 t1317 t1320 _ ?side1 ?side2 A6.out).mono ?_);(case side1=>exact cl_ (Kd.R_reads' HO1315.out).2.2);(case side2=>exact (Kd.R_reads' HO1315.out).2.1);rintro e w11 ⟨v1318,rfl,ho0,hb⟩;replace HO1315:=rb_ HO1315 hb;have HO1319:=A_ (Kd.R_lower ho0 (below_size bb_));replace HB:=A_ (below_step bb_ hb);(try clear hb);(try clear hb2);(try clear hk);(try clear hi);(try clear ho0))|((with_reducible refine gate_dst (N:=6) rfl ?_);refine box_event ?hg (N:=6) ?hd (cs:=#[.int .i64 0,.slice none 0 0]) (t:=28) ?hr ?_;(case hd=>rfl);(case hg=>rfl);(case hr=>first|(go_simp;done)|(go_simp;rfl));intro gb1321 hg w12 hbox hb;replace HO1315:=rb_ HO1315 hb;replace HO1319:=rb_ HO1319 hb;have BK1321:=A_ (hbox);have GW1321:=A_ ((by rw [hg];exact (below_size bb_) : w.heap.size ≤ gb1321));have GE1321:=A_ ((by rw [hg];exact (below_size bb_) : w.heap.size ≤ gb1321));replace HB:=A_ (below_step bb_ hb);clear hb hbox hg;have hcz13_0 : w12.cell? ⟨gb1321,0,none⟩ = some (.int .i64 0):=blk_cell BK1321.out 0;have hcz13_1 : w12.cell? ⟨gb1321,1,none⟩ = some (.slice none 0 0):=blk_cell BK1321.out 1;have hfz13_0:=blk_frozen BK1321.out 0;have hfz13_1:=blk_frozen BK1321.out 1;obtain ⟨Ao14,co14,eo14⟩:=Kd.R_slice HO1319.out;subst eo14)|(go_at_call 45;(with_reducible refine (spec_OrderOfIntervals.calls k _ _ t1313 t1322 t1323 t1326 _ ?side1 ?side2 A7.out).mono ?_);(case side1=>refine (Kd.R_reads' (e:=62) (base:=w.heap.size) (ok:=fun k_=>True) (n:=t1313.length) (c:=co10) ?_).2.2;exact (by (with_reducible repeat (first|apply Kd.R_alloc|apply Kd.R_drewN|apply Kd.R_drew));exact (Kd.R_mono (Kd.R_far (p:=⟨gb1321,1,none⟩) (Kd.R_far (p:=⟨gb1321,0,none⟩) (Kd.R_types HO1315.out BK1321.out (by decide)) (fun _ hk=>hk.2) (.int .i64 t1316)) (fun _ hk=>hk.2) (.slice Ao14 t1317.length co14)) (fun _ h_=>h_.1))));(case side2=>exact (Kd.R_reads' HO1315.out).2.1);rintro e w15 ⟨v1324,rfl,ho0,hb⟩;replace HO1315:=A_ (Kd.R_below (by (with_reducible repeat (first|apply Kd.R_alloc|apply Kd.R_drewN|apply Kd.R_drew));exact (Kd.R_mono (Kd.R_far (p:=⟨gb1321,1,none⟩) (Kd.R_far (p:=⟨gb1321,0,none⟩) (Kd.R_types HO1315.out BK1321.out (by decide)) (fun _ hk=>hk.2) (.int .i64 t1316)) (fun _ hk=>hk.2) (.slice Ao14 t1317.length co14)) (fun _ h_=>h_.1))) hb);have HO1325:=A_ (Kd.R_lower (Kd.R_new' ho0 (Kd.R_lt (by (with_reducible repeat (first|apply Kd.R_alloc|apply Kd.R_drewN|apply Kd.R_drew));exact (Kd.R_mono (Kd.R_far (p:=⟨gb1321,1,none⟩) (Kd.R_far (p:=⟨gb1321,0,none⟩) (Kd.R_types HO1319.out BK1321.out (by decide)) (fun _ hk=>hk.2) (.int .i64 t1316)) (fun _ hk=>hk.2) (.slice Ao14 t1317.length co14)) (fun _ h_=>h_.1))))) (below_size bb_));replace HO1319:=A_ (Kd.R_elder' (by (with_reducible repeat (first|apply Kd.R_alloc|apply Kd.R_drewN|apply Kd.R_drew));exact (Kd.R_mono (Kd.R_far (p:=⟨gb1321,1,none⟩) (Kd.R_far (p:=⟨gb1321,0,none⟩) (Kd.R_types HO1319.out BK1321.out (by decide)) (fun _ hk=>hk.2) (.int .i64 t1316)) (fun _ hk=>hk.2) (.slice Ao14 t1317.length co14)) (fun _ h_=>h_.1))) (Kd.R_base ho0) hb);replace BK1321:=A_ (blk_below (g:=gb1321) (o:=.cells #[.int .i64 t1316,.slice Ao14 t1317.length co14] 28 (0,0)) (by (with_reducible repeat (first|refine blk_drewN ?_ _|refine blk_drew ?_|refine blk_alloc ?_ _));refine blk_put (cs:=#[.int .i64 t1316,.slice none 0 0]) ?_ 1 _ rfl;(with_reducible repeat (first|refine blk_drewN ?_ _|refine blk_drew ?_|refine blk_alloc ?_ _));refine blk_put (cs:=#[.int .i64 0,.slice none 0 0]) ?_ 0 _ rfl;(with_reducible repeat (first|refine blk_drewN ?_ _|refine blk_drew ?_|refine blk_alloc ?_ _));exact BK1321.out) hb);replace HB:=A_ (below_step bb_ hb);(try clear hb);(try clear hb2);(try clear hk);(try clear hi);(try clear ho0))|((with_reducible refine gate_dst (N:=8) rfl ?_);refine box_event ?hg (N:=8) ?hd (cs:=#[.int .i64 0,.slice none 0 0]) (t:=28) ?hr ?_;(case hd=>rfl);(case hg=>rfl);(case hr=>first|(go_simp;done)|(go_simp;rfl));intro gb1327 hg w16 hbox hb;replace HO1315:=rb_ HO1315 hb;replace HO1319:=rb_ HO1319 hb;replace HO1325:=rb_ HO1325 hb;have BK1327:=A_ (hbox);have GW1327:=A_ ((by rw [hg];exact (below_size bb_) : w.heap.size ≤ gb1327));have GE1327:=A_ ((by rw [hg];exact (below_size bb_) : w.heap.size ≤ gb1327));replace HB:=A_ (below_step bb_ hb);have NB1321_1327:=A_ ((by rw [hg];exact Nat.ne_of_lt (blk_lt (bl_ BK1321)) : gb1321 ≠ gb1327));have NB1327_1321:=A_ ((by rw [hg];exact Nat.ne_of_gt (blk_lt (bl_ BK1321)) : gb1327 ≠ gb1321));replace BK1321:=bz BK1321 hb;clear hb hbox hg;have hnb17:=NB1327_1321.out;have hnc17:=NB1321_1327.out;have hcz18_0 : w16.cell? ⟨gb1327,0,none⟩ = some (.int .i64 0):=blk_cell BK1327.out 0;have hcz18_1 : w16.cell? ⟨gb1327,1,none⟩ = some (.slice none 0 0):=blk_cell BK1327.out 1;have hfz18_0:=blk_frozen BK1327.out 0;have hfz18_1:=blk_frozen BK1327.out 1;obtain ⟨Ao19,co19,eo19⟩:=Kd.R_slice HO1325.out;subst eo19)))
  (try simp only [Act.put,L_,M_,N_]);go_cut [54] (fun v54 wc=>∃ (kq : Nat) (x54_7 : Bool),v54 = .bool x54_7 ∧ Aside0 (laws_FnEndsAreLeast.j0 kq t1313 t1326 x54_7 t1316 t1317 = some r) ∧ Aside0 (kq ≤ k) ∧ Aside0 (Kd.R k62 62 wc w.heap.size (fun _=>True) (.slice Ao10 t1313.length co10) t1313) ∧ Aside0 (Kd.R (Kd.int .i64) 3 wc w.heap.size (fun k_=>some k_ ≠ ((.slice Ao19 t1323.length co19) : Value).ownBlock) (.slice Ao14 t1317.length co14) t1317) ∧ Aside0 (Kd.R (Kd.int .i64) 3 wc w.heap.size (fun k_=>some k_ ≠ ((.slice Ao14 t1317.length co14) : Value).ownBlock) (.slice Ao19 t1323.length co19) t1323) ∧ Aside0 (wc.heap[gb1321]? = some (.cells #[.int .i64 t1316,(.slice Ao14 t1317.length co14)] 28 (0,0))) ∧ Aside0 (wc.heap[gb1327]? = some (.cells #[.int .i64 t1322,(.slice Ao19 t1323.length co19)] 28 (0,0))) ∧ Aside0 (Below w.heap.size w wc))
  case first =>
   have H:=HC8.out;clear HC8;by_cases c20 : (t1320 != t1326) = true
   ·rw [if_pos c20] at H;have c20b0 : (t1320 != t1326) = true:=c20;(try (have c20b1 : decide (t1320 = t1326) = false:=by simpa using c20));(try (have c20b2 : (t1320 == t1326) = false:=by simpa using c20));(try (have c20b3 : ¬ (t1320 = t1326):=by simpa using c20));clear c20;(first|rw [c20b0]|(simp only [i64_w,i32_w];rw [c20b0])|skip)
    have H':=A_ H;clear H;go_wp2
    repeat (go_quiet (fail);try go_wp2)
    go_meet
    case rel=>exact ⟨_,(true),(by first|rfl|(simp;done)|(simp [*];done)),H',⟨by first|omega|exact Nat.le_refl _⟩,⟨by (with_reducible repeat (first|apply Kd.R_alloc|apply Kd.R_drewN|apply Kd.R_drew));exact Kd.R_mono (Kd.R_far (p:=⟨gb1327,1,none⟩) (Kd.R_far (p:=⟨gb1327,0,none⟩) (Kd.R_types HO1315.out BK1327.out (by decide)) (fun _ hk=>hk.2) (.int .i64 t1322)) (fun _ hk=>hk.2) (.slice Ao19 t1323.length co19)) (fun _ hk=>trivial)⟩,⟨by (with_reducible repeat (first|apply Kd.R_alloc|apply Kd.R_drewN|apply Kd.R_drew));exact Kd.R_mono (Kd.R_far (p:=⟨gb1327,1,none⟩) (Kd.R_far (p:=⟨gb1327,0,none⟩) (Kd.R_types HO1319.out BK1327.out (by decide)) (fun _ hk=>hk.2) (.int .i64 t1322)) (fun _ hk=>hk.2) (.slice Ao19 t1323.length co19)) (fun _ hk=>hk.1.2)⟩,⟨by (with_reducible repeat (first|apply Kd.R_alloc|apply Kd.R_drewN|apply Kd.R_drew));exact Kd.R_mono (Kd.R_far (p:=⟨gb1327,1,none⟩) (Kd.R_far (p:=⟨gb1327,0,none⟩) (Kd.R_types HO1325.out BK1327.out (by decide)) (fun _ hk=>hk.2) (.int .i64 t1322)) (fun _ hk=>hk.2) (.slice Ao19 t1323.length co19)) (fun _ hk=>hk.1.2)⟩,⟨by (with_reducible repeat (first|refine blk_drewN ?_ _|refine blk_drew ?_|refine blk_alloc ?_ _));refine blk_far ?_ NB1321_1327.out _;(with_reducible repeat (first|refine blk_drewN ?_ _|refine blk_drew ?_|refine blk_alloc ?_ _));refine blk_far ?_ NB1321_1327.out _;(with_reducible repeat (first|refine blk_drewN ?_ _|refine blk_drew ?_|refine blk_alloc ?_ _));exact BK1321.out⟩,⟨by (with_reducible repeat (first|refine blk_drewN ?_ _|refine blk_drew ?_|refine blk_alloc ?_ _));refine blk_put (cs:=#[.int .i64 t1322,.slice none 0 0]) ?_ 1 _ rfl;(with_reducible repeat (first|refine blk_drewN ?_ _|refine blk_drew ?_|refine blk_alloc ?_ _));refine blk_put (cs:=#[.int .i64 0,.slice none 0 0]) ?_ 0 _ rfl;(with_reducible repeat (first|refine blk_drewN ?_ _|refine blk_drew ?_|refine blk_alloc ?_ _));exact BK1327.out⟩,⟨bb_⟩⟩
   ·rw [if_neg c20] at H;have c20b0 : (t1320 != t1326) = false:=by simpa using c20
    (try (have c20b1 : decide (t1320 = t1326) = true:=by simpa using c20));(try (have c20b2 : (t1320 == t1326) = true:=by simpa using c20));clear c20;(first|rw [c20b0]|(simp only [i64_w,i32_w];rw [c20b0])|skip)
    replace H:=Option.bind_eq_some_iff.mp H;obtain ⟨t1328,A210,H⟩:=H;replace H : (if t1328 = true then ((impl_AreIntervals.f k t1313).bind fun t1329=>(laws_FnEndsAreLeast.j0 k t1313 t1326 (t1320 != t1329) t1316 t1317)) else (laws_FnEndsAreLeast.j0 k t1313 t1326 true t1316 t1317)) = some r:=H;have A21:=A_ A210;clear A210;by_cases c22 : t1328 = true
    ·subst c22;have H1 : ((impl_AreIntervals.f k t1313).bind fun t1329=>(laws_FnEndsAreLeast.j0 k t1313 t1326 (t1320 != t1329) t1316 t1317)) = some r:=by rw [if_pos rfl] at H;exact H
     clear H;have H:=H1;clear H1;replace H:=Option.bind_eq_some_iff.mp H;obtain ⟨t1329,A230,H⟩:=H;replace H : (laws_FnEndsAreLeast.j0 k t1313 t1326 (t1320 != t1329) t1316 t1317) = some r:=H;have A23:=A_ A230;clear A230;have H':=A_ H;clear H;have hnb24:=NB1321_1327.out;have hnc24:=NB1327_1321.out;have hcz25_0 : w16.cell? ⟨gb1321,0,none⟩ = some (.int .i64 t1316):=blk_cell BK1321.out 0;have hcz25_1 : w16.cell? ⟨gb1321,1,none⟩ = some (.slice Ao14 t1317.length co14):=blk_cell BK1321.out 1;have hfz25_0:=blk_frozen BK1321.out 0;have hfz25_1:=blk_frozen BK1321.out 1;have hcz26_0 : w16.cell? ⟨gb1327,0,none⟩ = some (.int .i64 0):=blk_cell BK1327.out 0;have hcz26_1 : w16.cell? ⟨gb1327,1,none⟩ = some (.slice none 0 0):=blk_cell BK1327.out 1;have hfz26_0:=blk_frozen BK1327.out 0;have hfz26_1:=blk_frozen BK1327.out 1;go_wp2_with (first|(go_at_call 46;(with_reducible refine (laws_pSameOrder.calls k t1316 _ _ t1317 t1322 _ _ t1323 true _ ?side1 ?side2 ?side3 ?side4 A21.out).mono ?_);(case side1=>refine (Kd.R_reads' (e:=3) (base:=w.heap.size) (ok:=fun k_=>(True ∧ some k_ ≠ (.slice Ao19 t1323.length co19 : Value).ownBlock)) (n:=t1317.length) (c:=co14) ?_).2.2;exact (by (with_reducible repeat (first|apply Kd.R_alloc|apply Kd.R_drewN|apply Kd.R_drew));exact (Kd.R_mono (Kd.R_far (p:=⟨gb1327,1,none⟩) (Kd.R_far (p:=⟨gb1327,0,none⟩) (Kd.R_types HO1319.out BK1327.out (by decide)) (fun _ hk=>hk.2) (.int .i64 t1322)) (fun _ hk=>hk.2) (.slice Ao19 t1323.length co19)) (fun _ h_=>h_.1))));(case side2=>exact (Kd.R_reads' HO1319.out).2.1);(case side3=>refine (Kd.R_reads' (e:=3) (base:=w.heap.size) (ok:=fun k_=>(True ∧ some k_ ≠ (.slice Ao14 t1317.length co14 : Value).ownBlock)) (n:=t1323.length) (c:=co19) ?_).2.2;exact (by (with_reducible repeat (first|apply Kd.R_alloc|apply Kd.R_drewN|apply Kd.R_drew));exact (Kd.R_mono (Kd.R_far (p:=⟨gb1327,1,none⟩) (Kd.R_far (p:=⟨gb1327,0,none⟩) (Kd.R_types HO1325.out BK1327.out (by decide)) (fun _ hk=>hk.2) (.int .i64 t1322)) (fun _ hk=>hk.2) (.slice Ao19 t1323.length co19)) (fun _ h_=>h_.1))));(case side4=>exact (Kd.R_reads' HO1325.out).2.1);rintro e w27 ⟨rfl,hb⟩;replace HO1315:=A_ (Kd.R_below (by (with_reducible repeat (first|apply Kd.R_alloc|apply Kd.R_drewN|apply Kd.R_drew));exact (Kd.R_mono (Kd.R_far (p:=⟨gb1327,1,none⟩) (Kd.R_far (p:=⟨gb1327,0,none⟩) (Kd.R_types HO1315.out BK1327.out (by decide)) (fun _ hk=>hk.2) (.int .i64 t1322)) (fun _ hk=>hk.2) (.slice Ao19 t1323.length co19)) (fun _ h_=>h_.1))) hb);replace HO1319:=A_ (Kd.R_below (by (with_reducible repeat (first|apply Kd.R_alloc|apply Kd.R_drewN|apply Kd.R_drew));exact (Kd.R_mono (Kd.R_far (p:=⟨gb1327,1,none⟩) (Kd.R_far (p:=⟨gb1327,0,none⟩) (Kd.R_types HO1319.out BK1327.out (by decide)) (fun _ hk=>hk.2) (.int .i64 t1322)) (fun _ hk=>hk.2) (.slice Ao19 t1323.length co19)) (fun _ h_=>h_.1))) hb);replace HO1325:=A_ (Kd.R_below (by (with_reducible repeat (first|apply Kd.R_alloc|apply Kd.R_drewN|apply Kd.R_drew));exact (Kd.R_mono (Kd.R_far (p:=⟨gb1327,1,none⟩) (Kd.R_far (p:=⟨gb1327,0,none⟩) (Kd.R_types HO1325.out BK1327.out (by decide)) (fun _ hk=>hk.2) (.int .i64 t1322)) (fun _ hk=>hk.2) (.slice Ao19 t1323.length co19)) (fun _ h_=>h_.1))) hb);replace BK1321:=A_ (blk_below (g:=gb1321) (o:=.cells #[.int .i64 t1316,.slice Ao14 t1317.length co14] 28 (0,0)) (by (with_reducible repeat (first|refine blk_drewN ?_ _|refine blk_drew ?_|refine blk_alloc ?_ _));refine blk_far ?_ NB1321_1327.out _;(with_reducible repeat (first|refine blk_drewN ?_ _|refine blk_drew ?_|refine blk_alloc ?_ _));refine blk_far ?_ NB1321_1327.out _;(with_reducible repeat (first|refine blk_drewN ?_ _|refine blk_drew ?_|refine blk_alloc ?_ _));exact BK1321.out) hb);replace BK1327:=A_ (blk_below (g:=gb1327) (o:=.cells #[.int .i64 t1322,.slice Ao19 t1323.length co19] 28 (0,0)) (by (with_reducible repeat (first|refine blk_drewN ?_ _|refine blk_drew ?_|refine blk_alloc ?_ _));refine blk_put (cs:=#[.int .i64 t1322,.slice none 0 0]) ?_ 1 _ rfl;(with_reducible repeat (first|refine blk_drewN ?_ _|refine blk_drew ?_|refine blk_alloc ?_ _));refine blk_put (cs:=#[.int .i64 0,.slice none 0 0]) ?_ 0 _ rfl;(with_reducible repeat (first|refine blk_drewN ?_ _|refine blk_drew ?_|refine blk_alloc ?_ _));exact BK1327.out) hb);replace HB:=A_ (below_step bb_ hb);(try clear hb);(try clear hb2);(try clear hk);(try clear hi))|(go_at_call 47;(with_reducible refine (impl_AreIntervals.calls k _ _ t1313 t1329 _ ?side1 ?side2 A23.out).mono ?_);(case side1=>exact cl_ (Kd.R_reads' HO1315.out).2.2);(case side2=>exact (Kd.R_reads' HO1315.out).2.1);rintro e w28 ⟨rfl,hb⟩;replace HO1315:=rb_ HO1315 hb;replace HO1319:=rb_ HO1319 hb;replace HO1325:=rb_ HO1325 hb;replace BK1321:=bz BK1321 hb;replace BK1327:=bz BK1327 hb;replace HB:=A_ (below_step bb_ hb);(try clear hb);(try clear hb2);(try clear hk);(try clear hi)))
     repeat (go_quiet (first|(go_at_call 46;(with_reducible refine (laws_pSameOrder.calls k t1316 _ _ t1317 t1322 _ _ t1323 true _ ?side1 ?side2 ?side3 ?side4 A21.out).mono ?_);(case side1=>refine (Kd.R_reads' (e:=3) (base:=w.heap.size) (ok:=fun k_=>(True ∧ some k_ ≠ (.slice Ao19 t1323.length co19 : Value).ownBlock)) (n:=t1317.length) (c:=co14) ?_).2.2;exact (by (with_reducible repeat (first|apply Kd.R_alloc|apply Kd.R_drewN|apply Kd.R_drew));exact (Kd.R_mono (Kd.R_far (p:=⟨gb1327,1,none⟩) (Kd.R_far (p:=⟨gb1327,0,none⟩) (Kd.R_types HO1319.out BK1327.out (by decide)) (fun _ hk=>hk.2) (.int .i64 t1322)) (fun _ hk=>hk.2) (.slice Ao19 t1323.length co19)) (fun _ h_=>h_.1))));(case side2=>exact (Kd.R_reads' HO1319.out).2.1);(case side3=>refine (Kd.R_reads' (e:=3) (base:=w.heap.size) (ok:=fun k_=>(True ∧ some k_ ≠ (.slice Ao14 t1317.length co14 : Value).ownBlock)) (n:=t1323.length) (c:=co19) ?_).2.2;exact (by (with_reducible repeat (first|apply Kd.R_alloc|apply Kd.R_drewN|apply Kd.R_drew));exact (Kd.R_mono (Kd.R_far (p:=⟨gb1327,1,none⟩) (Kd.R_far (p:=⟨gb1327,0,none⟩) (Kd.R_types HO1325.out BK1327.out (by decide)) (fun _ hk=>hk.2) (.int .i64 t1322)) (fun _ hk=>hk.2) (.slice Ao19 t1323.length co19)) (fun _ h_=>h_.1))));(case side4=>exact (Kd.R_reads' HO1325.out).2.1);rintro e w27 ⟨rfl,hb⟩;replace HO1315:=A_ (Kd.R_below (by (with_reducible repeat (first|apply Kd.R_alloc|apply Kd.R_drewN|apply Kd.R_drew));exact (Kd.R_mono (Kd.R_far (p:=⟨gb1327,1,none⟩) (Kd.R_far (p:=⟨gb1327,0,none⟩) (Kd.R_types HO1315.out BK1327.out (by decide)) (fun _ hk=>hk.2) (.int .i64 t1322)) (fun _ hk=>hk.2) (.slice Ao19 t1323.length co19)) (fun _ h_=>h_.1))) hb);replace HO1319:=A_ (Kd.R_below (by (with_reducible repeat (first|apply Kd.R_alloc|apply Kd.R_drewN|apply Kd.R_drew));exact (Kd.R_mono (Kd.R_far (p:=⟨gb1327,1,none⟩) (Kd.R_far (p:=⟨gb1327,0,none⟩) (Kd.R_types HO1319.out BK1327.out (by decide)) (fun _ hk=>hk.2) (.int .i64 t1322)) (fun _ hk=>hk.2) (.slice Ao19 t1323.length co19)) (fun _ h_=>h_.1))) hb);replace HO1325:=A_ (Kd.R_below (by (with_reducible repeat (first|apply Kd.R_alloc|apply Kd.R_drewN|apply Kd.R_drew));exact (Kd.R_mono (Kd.R_far (p:=⟨gb1327,1,none⟩) (Kd.R_far (p:=⟨gb1327,0,none⟩) (Kd.R_types HO1325.out BK1327.out (by decide)) (fun _ hk=>hk.2) (.int .i64 t1322)) (fun _ hk=>hk.2) (.slice Ao19 t1323.length co19)) (fun _ h_=>h_.1))) hb);replace BK1321:=A_ (blk_below (g:=gb1321) (o:=.cells #[.int .i64 t1316,.slice Ao14 t1317.length co14] 28 (0,0)) (by (with_reducible repeat (first|refine blk_drewN ?_ _|refine blk_drew ?_|refine blk_alloc ?_ _));refine blk_far ?_ NB1321_1327.out _;(with_reducible repeat (first|refine blk_drewN ?_ _|refine blk_drew ?_|refine blk_alloc ?_ _));refine blk_far ?_ NB1321_1327.out _;(with_reducible repeat (first|refine blk_drewN ?_ _|refine blk_drew ?_|refine blk_alloc ?_ _));exact BK1321.out) hb);replace BK1327:=A_ (blk_below (g:=gb1327) (o:=.cells #[.int .i64 t1322,.slice Ao19 t1323.length co19] 28 (0,0)) (by (with_reducible repeat (first|refine blk_drewN ?_ _|refine blk_drew ?_|refine blk_alloc ?_ _));refine blk_put (cs:=#[.int .i64 t1322,.slice none 0 0]) ?_ 1 _ rfl;(with_reducible repeat (first|refine blk_drewN ?_ _|refine blk_drew ?_|refine blk_alloc ?_ _));refine blk_put (cs:=#[.int .i64 0,.slice none 0 0]) ?_ 0 _ rfl;(with_reducible repeat (first|refine blk_drewN ?_ _|refine blk_drew ?_|refine blk_alloc ?_ _));exact BK1327.out) hb);replace HB:=A_ (below_step bb_ hb);(try clear hb);(try clear hb2);(try clear hk);(try clear hi))|(go_at_call 47;(with_reducible refine (impl_AreIntervals.calls k _ _ t1313 t1329 _ ?side1 ?side2 A23.out).mono ?_);(case side1=>exact cl_ (Kd.R_reads' HO1315.out).2.2);(case side2=>exact (Kd.R_reads' HO1315.out).2.1);rintro e w28 ⟨rfl,hb⟩;replace HO1315:=rb_ HO1315 hb;replace HO1319:=rb_ HO1319 hb;replace HO1325:=rb_ HO1325 hb;replace BK1321:=bz BK1321 hb;replace BK1327:=bz BK1327 hb;replace HB:=A_ (below_step bb_ hb);(try clear hb);(try clear hb2);(try clear hk);(try clear hi)));try go_wp2_with (first|(go_at_call 46;(with_reducible refine (laws_pSameOrder.calls k t1316 _ _ t1317 t1322 _ _ t1323 true _ ?side1 ?side2 ?side3 ?side4 A21.out).mono ?_);(case side1=>refine (Kd.R_reads' (e:=3) (base:=w.heap.size) (ok:=fun k_=>(True ∧ some k_ ≠ (.slice Ao19 t1323.length co19 : Value).ownBlock)) (n:=t1317.length) (c:=co14) ?_).2.2;exact (by (with_reducible repeat (first|apply Kd.R_alloc|apply Kd.R_drewN|apply Kd.R_drew));exact (Kd.R_mono (Kd.R_far (p:=⟨gb1327,1,none⟩) (Kd.R_far (p:=⟨gb1327,0,none⟩) (Kd.R_types HO1319.out BK1327.out (by decide)) (fun _ hk=>hk.2) (.int .i64 t1322)) (fun _ hk=>hk.2) (.slice Ao19 t1323.length co19)) (fun _ h_=>h_.1))));(case side2=>exact (Kd.R_reads' HO1319.out).2.1);(case side3=>refine (Kd.R_reads' (e:=3) (base:=w.heap.size) (ok:=fun k_=>(True ∧ some k_ ≠ (.slice Ao14 t1317.length co14 : Value).ownBlock)) (n:=t1323.length) (c:=co19) ?_).2.2;exact (by (with_reducible repeat (first|apply Kd.R_alloc|apply Kd.R_drewN|apply Kd.R_drew));exact (Kd.R_mono (Kd.R_far (p:=⟨gb1327,1,none⟩) (Kd.R_far (p:=⟨gb1327,0,none⟩) (Kd.R_types HO1325.out BK1327.out (by decide)) (fun _ hk=>hk.2) (.int .i64 t1322)) (fun _ hk=>hk.2) (.slice Ao19 t1323.length co19)) (fun _ h_=>h_.1))));(case side4=>exact (Kd.R_reads' HO1325.out).2.1);rintro e w27 ⟨rfl,hb⟩;replace HO1315:=A_ (Kd.R_below (by (with_reducible repeat (first|apply Kd.R_alloc|apply Kd.R_drewN|apply Kd.R_drew));exact (Kd.R_mono (Kd.R_far (p:=⟨gb1327,1,none⟩) (Kd.R_far (p:=⟨gb1327,0,none⟩) (Kd.R_types HO1315.out BK1327.out (by decide)) (fun _ hk=>hk.2) (.int .i64 t1322)) (fun _ hk=>hk.2) (.slice Ao19 t1323.length co19)) (fun _ h_=>h_.1))) hb);replace HO1319:=A_ (Kd.R_below (by (with_reducible repeat (first|apply Kd.R_alloc|apply Kd.R_drewN|apply Kd.R_drew));exact (Kd.R_mono (Kd.R_far (p:=⟨gb1327,1,none⟩) (Kd.R_far (p:=⟨gb1327,0,none⟩) (Kd.R_types HO1319.out BK1327.out (by decide)) (fun _ hk=>hk.2) (.int .i64 t1322)) (fun _ hk=>hk.2) (.slice Ao19 t1323.length co19)) (fun _ h_=>h_.1))) hb);replace HO1325:=A_ (Kd.R_below (by (with_reducible repeat (first|apply Kd.R_alloc|apply Kd.R_drewN|apply Kd.R_drew));exact (Kd.R_mono (Kd.R_far (p:=⟨gb1327,1,none⟩) (Kd.R_far (p:=⟨gb1327,0,none⟩) (Kd.R_types HO1325.out BK1327.out (by decide)) (fun _ hk=>hk.2) (.int .i64 t1322)) (fun _ hk=>hk.2) (.slice Ao19 t1323.length co19)) (fun _ h_=>h_.1))) hb);replace BK1321:=A_ (blk_below (g:=gb1321) (o:=.cells #[.int .i64 t1316,.slice Ao14 t1317.length co14] 28 (0,0)) (by (with_reducible repeat (first|refine blk_drewN ?_ _|refine blk_drew ?_|refine blk_alloc ?_ _));refine blk_far ?_ NB1321_1327.out _;(with_reducible repeat (first|refine blk_drewN ?_ _|refine blk_drew ?_|refine blk_alloc ?_ _));refine blk_far ?_ NB1321_1327.out _;(with_reducible repeat (first|refine blk_drewN ?_ _|refine blk_drew ?_|refine blk_alloc ?_ _));exact BK1321.out) hb);replace BK1327:=A_ (blk_below (g:=gb1327) (o:=.cells #[.int .i64 t1322,.slice Ao19 t1323.length co19] 28 (0,0)) (by (with_reducible repeat (first|refine blk_drewN ?_ _|refine blk_drew ?_|refine blk_alloc ?_ _));refine blk_put (cs:=#[.int .i64 t1322,.slice none 0 0]) ?_ 1 _ rfl;(with_reducible repeat (first|refine blk_drewN ?_ _|refine blk_drew ?_|refine blk_alloc ?_ _));refine blk_put (cs:=#[.int .i64 0,.slice none 0 0]) ?_ 0 _ rfl;(with_reducible repeat (first|refine blk_drewN ?_ _|refine blk_drew ?_|refine blk_alloc ?_ _));exact BK1327.out) hb);replace HB:=A_ (below_step bb_ hb);(try clear hb);(try clear hb2);(try clear hk);(try clear hi))|(go_at_call 47;(with_reducible refine (impl_AreIntervals.calls k _ _ t1313 t1329 _ ?side1 ?side2 A23.out).mono ?_);(case side1=>exact cl_ (Kd.R_reads' HO1315.out).2.2);(case side2=>exact (Kd.R_reads' HO1315.out).2.1);rintro e w28 ⟨rfl,hb⟩;replace HO1315:=rb_ HO1315 hb;replace HO1319:=rb_ HO1319 hb;replace HO1325:=rb_ HO1325 hb;replace BK1321:=bz BK1321 hb;replace BK1327:=bz BK1327 hb;replace HB:=A_ (below_step bb_ hb);(try clear hb);(try clear hb2);(try clear hk);(try clear hi))))
     go_meet
     case rel=>exact ⟨_,((t1320 != t1329)),(by first|rfl|(simp;done)|(simp [*];done)),H',⟨by first|omega|exact Nat.le_refl _⟩,⟨by (with_reducible repeat (first|apply Kd.R_alloc|apply Kd.R_drewN|apply Kd.R_drew));exact HO1315.out⟩,⟨by (with_reducible repeat (first|apply Kd.R_alloc|apply Kd.R_drewN|apply Kd.R_drew));exact Kd.R_mono HO1319.out (fun _ hk=>hk.2)⟩,⟨by (with_reducible repeat (first|apply Kd.R_alloc|apply Kd.R_drewN|apply Kd.R_drew));exact Kd.R_mono HO1325.out (fun _ hk=>hk.2)⟩,⟨bl_ BK1321⟩,⟨bl_ BK1327⟩,⟨bb_⟩⟩
    ·replace c22:=Bool.eq_false_iff.mpr c22;subst c22;have H1 : (laws_FnEndsAreLeast.j0 k t1313 t1326 true t1316 t1317) = some r:=by rw [if_neg (show ¬ (false = true) by decide)] at H;exact H
     clear H;have H:=H1;clear H1;have H':=A_ H;clear H;have hnb29:=NB1321_1327.out;have hnc29:=NB1327_1321.out;have hcz30_0 : w16.cell? ⟨gb1321,0,none⟩ = some (.int .i64 t1316):=blk_cell BK1321.out 0;have hcz30_1 : w16.cell? ⟨gb1321,1,none⟩ = some (.slice Ao14 t1317.length co14):=blk_cell BK1321.out 1;have hfz30_0:=blk_frozen BK1321.out 0;have hfz30_1:=blk_frozen BK1321.out 1;have hcz31_0 : w16.cell? ⟨gb1327,0,none⟩ = some (.int .i64 0):=blk_cell BK1327.out 0;have hcz31_1 : w16.cell? ⟨gb1327,1,none⟩ = some (.slice none 0 0):=blk_cell BK1327.out 1;have hfz31_0:=blk_frozen BK1327.out 0;have hfz31_1:=blk_frozen BK1327.out 1;go_wp2_with (first|(go_at_call 46;(with_reducible refine (laws_pSameOrder.calls k t1316 _ _ t1317 t1322 _ _ t1323 false _ ?side1 ?side2 ?side3 ?side4 A21.out).mono ?_);(case side1=>refine (Kd.R_reads' (e:=3) (base:=w.heap.size) (ok:=fun k_=>(True ∧ some k_ ≠ (.slice Ao19 t1323.length co19 : Value).ownBlock)) (n:=t1317.length) (c:=co14) ?_).2.2;exact (by (with_reducible repeat (first|apply Kd.R_alloc|apply Kd.R_drewN|apply Kd.R_drew));exact (Kd.R_mono (Kd.R_far (p:=⟨gb1327,1,none⟩) (Kd.R_far (p:=⟨gb1327,0,none⟩) (Kd.R_types HO1319.out BK1327.out (by decide)) (fun _ hk=>hk.2) (.int .i64 t1322)) (fun _ hk=>hk.2) (.slice Ao19 t1323.length co19)) (fun _ h_=>h_.1))));(case side2=>exact (Kd.R_reads' HO1319.out).2.1);(case side3=>refine (Kd.R_reads' (e:=3) (base:=w.heap.size) (ok:=fun k_=>(True ∧ some k_ ≠ (.slice Ao14 t1317.length co14 : Value).ownBlock)) (n:=t1323.length) (c:=co19) ?_).2.2;exact (by (with_reducible repeat (first|apply Kd.R_alloc|apply Kd.R_drewN|apply Kd.R_drew));exact (Kd.R_mono (Kd.R_far (p:=⟨gb1327,1,none⟩) (Kd.R_far (p:=⟨gb1327,0,none⟩) (Kd.R_types HO1325.out BK1327.out (by decide)) (fun _ hk=>hk.2) (.int .i64 t1322)) (fun _ hk=>hk.2) (.slice Ao19 t1323.length co19)) (fun _ h_=>h_.1))));(case side4=>exact (Kd.R_reads' HO1325.out).2.1);rintro e w32 ⟨rfl,hb⟩;replace HO1315:=A_ (Kd.R_below (by (with_reducible repeat (first|apply Kd.R_alloc|apply Kd.R_drewN|apply Kd.R_drew));exact (Kd.R_mono (Kd.R_far (p:=⟨gb1327,1,none⟩) (Kd.R_far (p:=⟨gb1327,0,none⟩) (Kd.R_types HO1315.out BK1327.out (by decide)) (fun _ hk=>hk.2) (.int .i64 t1322)) (fun _ hk=>hk.2) (.slice Ao19 t1323.length co19)) (fun _ h_=>h_.1))) hb);replace HO1319:=A_ (Kd.R_below (by (with_reducible repeat (first|apply Kd.R_alloc|apply Kd.R_drewN|apply Kd.R_drew));exact (Kd.R_mono (Kd.R_far (p:=⟨gb1327,1,none⟩) (Kd.R_far (p:=⟨gb1327,0,none⟩) (Kd.R_types HO1319.out BK1327.out (by decide)) (fun _ hk=>hk.2) (.int .i64 t1322)) (fun _ hk=>hk.2) (.slice Ao19 t1323.length co19)) (fun _ h_=>h_.1))) hb);replace HO1325:=A_ (Kd.R_below (by (with_reducible repeat (first|apply Kd.R_alloc|apply Kd.R_drewN|apply Kd.R_drew));exact (Kd.R_mono (Kd.R_far (p:=⟨gb1327,1,none⟩) (Kd.R_far (p:=⟨gb1327,0,none⟩) (Kd.R_types HO1325.out BK1327.out (by decide)) (fun _ hk=>hk.2) (.int .i64 t1322)) (fun _ hk=>hk.2) (.slice Ao19 t1323.length co19)) (fun _ h_=>h_.1))) hb);replace BK1321:=A_ (blk_below (g:=gb1321) (o:=.cells #[.int .i64 t1316,.slice Ao14 t1317.length co14] 28 (0,0)) (by (with_reducible repeat (first|refine blk_drewN ?_ _|refine blk_drew ?_|refine blk_alloc ?_ _));refine blk_far ?_ NB1321_1327.out _;(with_reducible repeat (first|refine blk_drewN ?_ _|refine blk_drew ?_|refine blk_alloc ?_ _));refine blk_far ?_ NB1321_1327.out _;(with_reducible repeat (first|refine blk_drewN ?_ _|refine blk_drew ?_|refine blk_alloc ?_ _));exact BK1321.out) hb);replace BK1327:=A_ (blk_below (g:=gb1327) (o:=.cells #[.int .i64 t1322,.slice Ao19 t1323.length co19] 28 (0,0)) (by (with_reducible repeat (first|refine blk_drewN ?_ _|refine blk_drew ?_|refine blk_alloc ?_ _));refine blk_put (cs:=#[.int .i64 t1322,.slice none 0 0]) ?_ 1 _ rfl;(with_reducible repeat (first|refine blk_drewN ?_ _|refine blk_drew ?_|refine blk_alloc ?_ _));refine blk_put (cs:=#[.int .i64 0,.slice none 0 0]) ?_ 0 _ rfl;(with_reducible repeat (first|refine blk_drewN ?_ _|refine blk_drew ?_|refine blk_alloc ?_ _));exact BK1327.out) hb);replace HB:=A_ (below_step bb_ hb);(try clear hb);(try clear hb2);(try clear hk);(try clear hi)))
     repeat (go_quiet (first|(go_at_call 46;(with_reducible refine (laws_pSameOrder.calls k t1316 _ _ t1317 t1322 _ _ t1323 false _ ?side1 ?side2 ?side3 ?side4 A21.out).mono ?_);(case side1=>refine (Kd.R_reads' (e:=3) (base:=w.heap.size) (ok:=fun k_=>(True ∧ some k_ ≠ (.slice Ao19 t1323.length co19 : Value).ownBlock)) (n:=t1317.length) (c:=co14) ?_).2.2;exact (by (with_reducible repeat (first|apply Kd.R_alloc|apply Kd.R_drewN|apply Kd.R_drew));exact (Kd.R_mono (Kd.R_far (p:=⟨gb1327,1,none⟩) (Kd.R_far (p:=⟨gb1327,0,none⟩) (Kd.R_types HO1319.out BK1327.out (by decide)) (fun _ hk=>hk.2) (.int .i64 t1322)) (fun _ hk=>hk.2) (.slice Ao19 t1323.length co19)) (fun _ h_=>h_.1))));(case side2=>exact (Kd.R_reads' HO1319.out).2.1);(case side3=>refine (Kd.R_reads' (e:=3) (base:=w.heap.size) (ok:=fun k_=>(True ∧ some k_ ≠ (.slice Ao14 t1317.length co14 : Value).ownBlock)) (n:=t1323.length) (c:=co19) ?_).2.2;exact (by (with_reducible repeat (first|apply Kd.R_alloc|apply Kd.R_drewN|apply Kd.R_drew));exact (Kd.R_mono (Kd.R_far (p:=⟨gb1327,1,none⟩) (Kd.R_far (p:=⟨gb1327,0,none⟩) (Kd.R_types HO1325.out BK1327.out (by decide)) (fun _ hk=>hk.2) (.int .i64 t1322)) (fun _ hk=>hk.2) (.slice Ao19 t1323.length co19)) (fun _ h_=>h_.1))));(case side4=>exact (Kd.R_reads' HO1325.out).2.1);rintro e w32 ⟨rfl,hb⟩;replace HO1315:=A_ (Kd.R_below (by (with_reducible repeat (first|apply Kd.R_alloc|apply Kd.R_drewN|apply Kd.R_drew));exact (Kd.R_mono (Kd.R_far (p:=⟨gb1327,1,none⟩) (Kd.R_far (p:=⟨gb1327,0,none⟩) (Kd.R_types HO1315.out BK1327.out (by decide)) (fun _ hk=>hk.2) (.int .i64 t1322)) (fun _ hk=>hk.2) (.slice Ao19 t1323.length co19)) (fun _ h_=>h_.1))) hb);replace HO1319:=A_ (Kd.R_below (by (with_reducible repeat (first|apply Kd.R_alloc|apply Kd.R_drewN|apply Kd.R_drew));exact (Kd.R_mono (Kd.R_far (p:=⟨gb1327,1,none⟩) (Kd.R_far (p:=⟨gb1327,0,none⟩) (Kd.R_types HO1319.out BK1327.out (by decide)) (fun _ hk=>hk.2) (.int .i64 t1322)) (fun _ hk=>hk.2) (.slice Ao19 t1323.length co19)) (fun _ h_=>h_.1))) hb);replace HO1325:=A_ (Kd.R_below (by (with_reducible repeat (first|apply Kd.R_alloc|apply Kd.R_drewN|apply Kd.R_drew));exact (Kd.R_mono (Kd.R_far (p:=⟨gb1327,1,none⟩) (Kd.R_far (p:=⟨gb1327,0,none⟩) (Kd.R_types HO1325.out BK1327.out (by decide)) (fun _ hk=>hk.2) (.int .i64 t1322)) (fun _ hk=>hk.2) (.slice Ao19 t1323.length co19)) (fun _ h_=>h_.1))) hb);replace BK1321:=A_ (blk_below (g:=gb1321) (o:=.cells #[.int .i64 t1316,.slice Ao14 t1317.length co14] 28 (0,0)) (by (with_reducible repeat (first|refine blk_drewN ?_ _|refine blk_drew ?_|refine blk_alloc ?_ _));refine blk_far ?_ NB1321_1327.out _;(with_reducible repeat (first|refine blk_drewN ?_ _|refine blk_drew ?_|refine blk_alloc ?_ _));refine blk_far ?_ NB1321_1327.out _;(with_reducible repeat (first|refine blk_drewN ?_ _|refine blk_drew ?_|refine blk_alloc ?_ _));exact BK1321.out) hb);replace BK1327:=A_ (blk_below (g:=gb1327) (o:=.cells #[.int .i64 t1322,.slice Ao19 t1323.length co19] 28 (0,0)) (by (with_reducible repeat (first|refine blk_drewN ?_ _|refine blk_drew ?_|refine blk_alloc ?_ _));refine blk_put (cs:=#[.int .i64 t1322,.slice none 0 0]) ?_ 1 _ rfl;(with_reducible repeat (first|refine blk_drewN ?_ _|refine blk_drew ?_|refine blk_alloc ?_ _));refine blk_put (cs:=#[.int .i64 0,.slice none 0 0]) ?_ 0 _ rfl;(with_reducible repeat (first|refine blk_drewN ?_ _|refine blk_drew ?_|refine blk_alloc ?_ _));exact BK1327.out) hb);replace HB:=A_ (below_step bb_ hb);(try clear hb);(try clear hb2);(try clear hk);(try clear hi)));try go_wp2_with (first|(go_at_call 46;(with_reducible refine (laws_pSameOrder.calls k t1316 _ _ t1317 t1322 _ _ t1323 false _ ?side1 ?side2 ?side3 ?side4 A21.out).mono ?_);(case side1=>refine (Kd.R_reads' (e:=3) (base:=w.heap.size) (ok:=fun k_=>(True ∧ some k_ ≠ (.slice Ao19 t1323.length co19 : Value).ownBlock)) (n:=t1317.length) (c:=co14) ?_).2.2;exact (by (with_reducible repeat (first|apply Kd.R_alloc|apply Kd.R_drewN|apply Kd.R_drew));exact (Kd.R_mono (Kd.R_far (p:=⟨gb1327,1,none⟩) (Kd.R_far (p:=⟨gb1327,0,none⟩) (Kd.R_types HO1319.out BK1327.out (by decide)) (fun _ hk=>hk.2) (.int .i64 t1322)) (fun _ hk=>hk.2) (.slice Ao19 t1323.length co19)) (fun _ h_=>h_.1))));(case side2=>exact (Kd.R_reads' HO1319.out).2.1);(case side3=>refine (Kd.R_reads' (e:=3) (base:=w.heap.size) (ok:=fun k_=>(True ∧ some k_ ≠ (.slice Ao14 t1317.length co14 : Value).ownBlock)) (n:=t1323.length) (c:=co19) ?_).2.2;exact (by (with_reducible repeat (first|apply Kd.R_alloc|apply Kd.R_drewN|apply Kd.R_drew));exact (Kd.R_mono (Kd.R_far (p:=⟨gb1327,1,none⟩) (Kd.R_far (p:=⟨gb1327,0,none⟩) (Kd.R_types HO1325.out BK1327.out (by decide)) (fun _ hk=>hk.2) (.int .i64 t1322)) (fun _ hk=>hk.2) (.slice Ao19 t1323.length co19)) (fun _ h_=>h_.1))));(case side4=>exact (Kd.R_reads' HO1325.out).2.1);rintro e w32 ⟨rfl,hb⟩;replace HO1315:=A_ (Kd.R_below (by (with_reducible repeat (first|apply Kd.R_alloc|apply Kd.R_drewN|apply Kd.R_drew));exact (Kd.R_mono (Kd.R_far (p:=⟨gb1327,1,none⟩) (Kd.R_far (p:=⟨gb1327,0,none⟩) (Kd.R_types HO1315.out BK1327.out (by decide)) (fun _ hk=>hk.2) (.int .i64 t1322)) (fun _ hk=>hk.2) (.slice Ao19 t1323.length co19)) (fun _ h_=>h_.1))) hb);replace HO1319:=A_ (Kd.R_below (by (with_reducible repeat (first|apply Kd.R_alloc|apply Kd.R_drewN|apply Kd.R_drew));exact (Kd.R_mono (Kd.R_far (p:=⟨gb1327,1,none⟩) (Kd.R_far (p:=⟨gb1327,0,none⟩) (Kd.R_types HO1319.out BK1327.out (by decide)) (fun _ hk=>hk.2) (.int .i64 t1322)) (fun _ hk=>hk.2) (.slice Ao19 t1323.length co19)) (fun _ h_=>h_.1))) hb);replace HO1325:=A_ (Kd.R_below (by (with_reducible repeat (first|apply Kd.R_alloc|apply Kd.R_drewN|apply Kd.R_drew));exact (Kd.R_mono (Kd.R_far (p:=⟨gb1327,1,none⟩) (Kd.R_far (p:=⟨gb1327,0,none⟩) (Kd.R_types HO1325.out BK1327.out (by decide)) (fun _ hk=>hk.2) (.int .i64 t1322)) (fun _ hk=>hk.2) (.slice Ao19 t1323.length co19)) (fun _ h_=>h_.1))) hb);replace BK1321:=A_ (blk_below (g:=gb1321) (o:=.cells #[.int .i64 t1316,.slice Ao14 t1317.length co14] 28 (0,0)) (by (with_reducible repeat (first|refine blk_drewN ?_ _|refine blk_drew ?_|refine blk_alloc ?_ _));refine blk_far ?_ NB1321_1327.out _;(with_reducible repeat (first|refine blk_drewN ?_ _|refine blk_drew ?_|refine blk_alloc ?_ _));refine blk_far ?_ NB1321_1327.out _;(with_reducible repeat (first|refine blk_drewN ?_ _|refine blk_drew ?_|refine blk_alloc ?_ _));exact BK1321.out) hb);replace BK1327:=A_ (blk_below (g:=gb1327) (o:=.cells #[.int .i64 t1322,.slice Ao19 t1323.length co19] 28 (0,0)) (by (with_reducible repeat (first|refine blk_drewN ?_ _|refine blk_drew ?_|refine blk_alloc ?_ _));refine blk_put (cs:=#[.int .i64 t1322,.slice none 0 0]) ?_ 1 _ rfl;(with_reducible repeat (first|refine blk_drewN ?_ _|refine blk_drew ?_|refine blk_alloc ?_ _));refine blk_put (cs:=#[.int .i64 0,.slice none 0 0]) ?_ 0 _ rfl;(with_reducible repeat (first|refine blk_drewN ?_ _|refine blk_drew ?_|refine blk_alloc ?_ _));exact BK1327.out) hb);replace HB:=A_ (below_step bb_ hb);(try clear hb);(try clear hb2);(try clear hk);(try clear hi))))
     go_meet
     case rel=>exact ⟨_,(true),(by first|rfl|(simp;done)|(simp [*];done)),H',⟨by first|omega|exact Nat.le_refl _⟩,⟨by (with_reducible repeat (first|apply Kd.R_alloc|apply Kd.R_drewN|apply Kd.R_drew));exact HO1315.out⟩,⟨by (with_reducible repeat (first|apply Kd.R_alloc|apply Kd.R_drewN|apply Kd.R_drew));exact Kd.R_mono HO1319.out (fun _ hk=>hk.2)⟩,⟨by (with_reducible repeat (first|apply Kd.R_alloc|apply Kd.R_drewN|apply Kd.R_drew));exact Kd.R_mono HO1325.out (fun _ hk=>hk.2)⟩,⟨bl_ BK1321⟩,⟨bl_ BK1327⟩,⟨bb_⟩⟩
  case rest =>
   clear HC8;try clear c1
   try clear c2
   try clear p2
   try clear c4
   try clear c6
   try clear c17
   try clear c20
   try clear c20b0
   try clear c20b1
   try clear c20b2
   try clear c22
   try clear c24
   try clear c29
   try clear hcz13_0
   try clear hcz13_1
   try clear hcz18_0
   try clear hcz18_1
   try clear hcz25_0
   try clear hcz25_1
   try clear hcz26_0
   try clear hcz26_1
   try clear hcz30_0
   try clear hcz30_1
   try clear hcz31_0
   try clear hcz31_1
   try clear hfz13_0
   try clear hfz13_1
   try clear hfz18_0
   try clear hfz18_1
   try clear hfz25_0
   try clear hfz25_1
   try clear hfz26_0
   try clear hfz26_1
   try clear hfz30_0
   try clear hfz30_1
   try clear hfz31_0
   try clear hfz31_1
   obtain ⟨kq,x54_7,rfl,HA,HJ7,HO_5,HO_1322001,HO_1328001,BK1321,BK1327,HB⟩:=hcut;cases kq with
   | zero=>exact absurd HA.out (by simp [laws_FnEndsAreLeast.j0])
   | succ kj7 =>
    have H:=HA.out;clear HA;simp only [laws_FnEndsAreLeast.j0] at H
    by_cases c33 : x54_7 = true
    ·subst c33;have H1 : (some false) = some r:=by rw [if_pos rfl] at H;exact H
     clear H;have H:=H1;clear H1;obtain rfl:=Option.some.inj H;go_wp2
     repeat (go_quiet (fail);try go_wp2)
     go_ret
     exact ⟨by first|rfl|(simp [errW_none,errW_some] <;> rfl)|(simp [*,errW_none,errW_some] <;> rfl),bb_⟩
    ·replace c33:=Bool.eq_false_iff.mpr c33;subst c33;have H1 : (if t1326 = true then ((impl_EndsOf.f kj7 t1316 t1317).bind fun bt1330=>((spec_EndsOf.f kj7 t1316 t1317).bind fun bt1334=>((impl_DoRepresent.f kj7 bt1330.1 t1316 t1317).bind fun bt1338=>((impl_AreLeastEnds.f kj7 bt1330.1).bind fun bt1340=>(if bt1330.2 = true then (if bt1334.2 = true then (if bt1338.2 = true then (if bt1340.2 = true then (if bt1338.1 = true then (if bt1340.1 = true then ((laws_pSameIntervals.f kj7 bt1330.1 bt1334.1).bind fun t1342=>(laws_FnEndsAreLeast.j1 kj7 t1313 bt1330.1 (!t1342))) else (laws_FnEndsAreLeast.j1 kj7 t1313 bt1330.1 true)) else (laws_FnEndsAreLeast.j1 kj7 t1313 bt1330.1 true)) else (laws_FnEndsAreLeast.j1 kj7 t1313 bt1330.1 true)) else (laws_FnEndsAreLeast.j1 kj7 t1313 bt1330.1 true)) else (laws_FnEndsAreLeast.j1 kj7 t1313 bt1330.1 true)) else (laws_FnEndsAreLeast.j1 kj7 t1313 bt1330.1 true)))))) else (some true)) = some r:=by rw [if_neg (show ¬ (false = true) by decide)] at H;exact H
     clear H;have H:=H1;clear H1;by_cases c34 : t1326 = true
     ·subst c34;have H1 : ((impl_EndsOf.f kj7 t1316 t1317).bind fun bt1330=>((spec_EndsOf.f kj7 t1316 t1317).bind fun bt1334=>((impl_DoRepresent.f kj7 bt1330.1 t1316 t1317).bind fun bt1338=>((impl_AreLeastEnds.f kj7 bt1330.1).bind fun bt1340=>(if bt1330.2 = true then (if bt1334.2 = true then (if bt1338.2 = true then (if bt1340.2 = true then (if bt1338.1 = true then (if bt1340.1 = true then ((laws_pSameIntervals.f kj7 bt1330.1 bt1334.1).bind fun t1342=>(laws_FnEndsAreLeast.j1 kj7 t1313 bt1330.1 (!t1342))) else (laws_FnEndsAreLeast.j1 kj7 t1313 bt1330.1 true)) else (laws_FnEndsAreLeast.j1 kj7 t1313 bt1330.1 true)) else (laws_FnEndsAreLeast.j1 kj7 t1313 bt1330.1 true)) else (laws_FnEndsAreLeast.j1 kj7 t1313 bt1330.1 true)) else (laws_FnEndsAreLeast.j1 kj7 t1313 bt1330.1 true)) else (laws_FnEndsAreLeast.j1 kj7 t1313 bt1330.1 true)))))) = some r:=by rw [if_pos rfl] at H;exact H
      clear H;have H:=H1;clear H1;replace H:=Option.bind_eq_some_iff.mp H;obtain ⟨⟨t1330,t1333⟩,A350,H⟩:=H;replace H : ((spec_EndsOf.f kj7 t1316 t1317).bind fun bt1334=>((impl_DoRepresent.f kj7 t1330 t1316 t1317).bind fun bt1338=>((impl_AreLeastEnds.f kj7 t1330).bind fun bt1340=>(if t1333 = true then (if bt1334.2 = true then (if bt1338.2 = true then (if bt1340.2 = true then (if bt1338.1 = true then (if bt1340.1 = true then ((laws_pSameIntervals.f kj7 t1330 bt1334.1).bind fun t1342=>(laws_FnEndsAreLeast.j1 kj7 t1313 t1330 (!t1342))) else (laws_FnEndsAreLeast.j1 kj7 t1313 t1330 true)) else (laws_FnEndsAreLeast.j1 kj7 t1313 t1330 true)) else (laws_FnEndsAreLeast.j1 kj7 t1313 t1330 true)) else (laws_FnEndsAreLeast.j1 kj7 t1313 t1330 true)) else (laws_FnEndsAreLeast.j1 kj7 t1313 t1330 true)) else (laws_FnEndsAreLeast.j1 kj7 t1313 t1330 true))))) = some r:=H;have A35:=A_ A350;clear A350;replace H:=Option.bind_eq_some_iff.mp H;obtain ⟨⟨t1334,t1337⟩,A360,H⟩:=H;replace H : ((impl_DoRepresent.f kj7 t1330 t1316 t1317).bind fun bt1338=>((impl_AreLeastEnds.f kj7 t1330).bind fun bt1340=>(if t1333 = true then (if t1337 = true then (if bt1338.2 = true then (if bt1340.2 = true then (if bt1338.1 = true then (if bt1340.1 = true then ((laws_pSameIntervals.f kj7 t1330 t1334).bind fun t1342=>(laws_FnEndsAreLeast.j1 kj7 t1313 t1330 (!t1342))) else (laws_FnEndsAreLeast.j1 kj7 t1313 t1330 true)) else (laws_FnEndsAreLeast.j1 kj7 t1313 t1330 true)) else (laws_FnEndsAreLeast.j1 kj7 t1313 t1330 true)) else (laws_FnEndsAreLeast.j1 kj7 t1313 t1330 true)) else (laws_FnEndsAreLeast.j1 kj7 t1313 t1330 true)) else (laws_FnEndsAreLeast.j1 kj7 t1313 t1330 true)))) = some r:=H;have A36:=A_ A360;clear A360;replace H:=Option.bind_eq_some_iff.mp H;obtain ⟨⟨t1338,t1339⟩,A370,H⟩:=H;replace H : ((impl_AreLeastEnds.f kj7 t1330).bind fun bt1340=>(if t1333 = true then (if t1337 = true then (if t1339 = true then (if bt1340.2 = true then (if t1338 = true then (if bt1340.1 = true then ((laws_pSameIntervals.f kj7 t1330 t1334).bind fun t1342=>(laws_FnEndsAreLeast.j1 kj7 t1313 t1330 (!t1342))) else (laws_FnEndsAreLeast.j1 kj7 t1313 t1330 true)) else (laws_FnEndsAreLeast.j1 kj7 t1313 t1330 true)) else (laws_FnEndsAreLeast.j1 kj7 t1313 t1330 true)) else (laws_FnEndsAreLeast.j1 kj7 t1313 t1330 true)) else (laws_FnEndsAreLeast.j1 kj7 t1313 t1330 true)) else (laws_FnEndsAreLeast.j1 kj7 t1313 t1330 true))) = some r:=H;have A37:=A_ A370;clear A370;replace H:=Option.bind_eq_some_iff.mp H;obtain ⟨⟨t1340,t1341⟩,A380,H⟩:=H;replace H : (if t1333 = true then (if t1337 = true then (if t1339 = true then (if t1341 = true then (if t1338 = true then (if t1340 = true then ((laws_pSameIntervals.f kj7 t1330 t1334).bind fun t1342=>(laws_FnEndsAreLeast.j1 kj7 t1313 t1330 (!t1342))) else (laws_FnEndsAreLeast.j1 kj7 t1313 t1330 true)) else (laws_FnEndsAreLeast.j1 kj7 t1313 t1330 true)) else (laws_FnEndsAreLeast.j1 kj7 t1313 t1330 true)) else (laws_FnEndsAreLeast.j1 kj7 t1313 t1330 true)) else (laws_FnEndsAreLeast.j1 kj7 t1313 t1330 true)) else (laws_FnEndsAreLeast.j1 kj7 t1313 t1330 true)) = some r:=H;have A38:=A_ A380;clear A380;have HC39:=A_ H;clear H;have hnb40:=NB1321_1327.out;have hnc40:=NB1327_1321.out;have hcz41_0 : wc.cell? ⟨gb1321,0,none⟩ = some (.int .i64 t1316):=blk_cell BK1321.out 0;have hcz41_1 : wc.cell? ⟨gb1321,1,none⟩ = some (.slice Ao14 t1317.length co14):=blk_cell BK1321.out 1;have hfz41_0:=blk_frozen BK1321.out 0;have hfz41_1:=blk_frozen BK1321.out 1;go_upto_region 14 with (first|(go_at_call 48;(with_reducible refine (impl_EndsOf.calls kj7 t1316 _ _ t1317 t1330 t1333 _ ?side1 ?side2 ?side3 A35.out).mono ?_);(case side1=>exact cl_ (Kd.R_reads' HO_1322001.out).2.2);(case side2=>exact (Kd.R_reads' HO_1322001.out).2.1);(case side3=>first|exact HT.out|exact HT.out.below bb_|(repeat (first|exact HT.out|apply TabOK.drewN|apply TabOK.drew|apply TabOK.alloc)));rintro e w42 ⟨v1331,rfl,ho0,hb⟩;replace HO_1322001:=rb_ HO_1322001 hb;replace HO_1328001:=rb_ HO_1328001 hb;have HO1332:=A_ (Kd.R_lower (Kd.R_new' ho0 (Kd.R_lt (rl_ HO_5))) (below_size bb_));replace HO_5:=A_ (Kd.R_elder' (rl_ HO_5) (Kd.R_base ho0) hb);replace BK1321:=bz BK1321 hb;replace BK1327:=bz BK1327 hb;replace HB:=A_ (below_step bb_ hb);(try clear hb);(try clear hb2);(try clear hk);(try clear hi);(try clear ho0);have hcz43_0 : w42.cell? ⟨gb1321,0,none⟩ = some (.int .i64 t1316):=blk_cell BK1321.out 0;have hcz43_1 : w42.cell? ⟨gb1321,1,none⟩ = some (.slice Ao14 t1317.length co14):=blk_cell BK1321.out 1;have hfz43_0:=blk_frozen BK1321.out 0;have hfz43_1:=blk_frozen BK1321.out 1)|(go_at_call 49;(with_reducible refine (spec_EndsOf.calls kj7 t1316 _ _ t1317 t1334 t1337 _ ?side1 ?side2 A36.out).mono ?_);(case side1=>exact cl_ (Kd.R_reads' HO_1322001.out).2.2);(case side2=>exact (Kd.R_reads' HO_1322001.out).2.1);rintro e w44 ⟨v1335,rfl,ho0,hb⟩;replace HO_1322001:=rb_ HO_1322001 hb;replace HO_1328001:=rb_ HO_1328001 hb;have HO1336:=A_ (Kd.R_lower (Kd.R_new' (Kd.R_new' ho0 (Kd.R_lt (rl_ HO_5))) (Kd.R_lt (rl_ HO1332))) (below_size bb_));replace HO_5:=A_ (Kd.R_elder' (rl_ HO_5) (Kd.R_base ho0) hb);replace HO1332:=A_ (Kd.R_elder' (rl_ HO1332) (Kd.R_base ho0) hb);replace BK1321:=bz BK1321 hb;replace BK1327:=bz BK1327 hb;replace HB:=A_ (below_step bb_ hb);(try clear hb);(try clear hb2);(try clear hk);(try clear hi);(try clear ho0);have hcz45_0 : w44.cell? ⟨gb1321,0,none⟩ = some (.int .i64 t1316):=blk_cell BK1321.out 0;have hcz45_1 : w44.cell? ⟨gb1321,1,none⟩ = some (.slice Ao14 t1317.length co14):=blk_cell BK1321.out 1;have hfz45_0:=blk_frozen BK1321.out 0;have hfz45_1:=blk_frozen BK1321.out 1;obtain ⟨Ao46,co46,eo46⟩:=Kd.R_slice HO1332.out;subst eo46)|(go_at_call 50;(with_reducible refine (impl_DoRepresent.calls kj7 _ _ t1330 t1316 _ _ t1317 t1338 t1339 _ ?side1 ?side2 ?side3 ?side4 ?side5 A37.out).mono ?_);(case side1=>exact cl_ (Kd.R_reads' HO1332.out).2.2);(case side2=>exact (Kd.R_reads' HO1332.out).2.1);(case side3=>exact cl_ (Kd.R_reads' HO_1322001.out).2.2);(case side4=>exact (Kd.R_reads' HO_1322001.out).2.1);(case side5=>first|exact HT.out|exact HT.out.below bb_|(repeat (first|exact HT.out|apply TabOK.drewN|apply TabOK.drew|apply TabOK.alloc)));rintro e w47 ⟨rfl,hb⟩;replace HO_5:=rb_ HO_5 hb;replace HO_1322001:=rb_ HO_1322001 hb;replace HO_1328001:=rb_ HO_1328001 hb;replace HO1332:=rb_ HO1332 hb;replace HO1336:=rb_ HO1336 hb;replace BK1321:=bz BK1321 hb;replace BK1327:=bz BK1327 hb;replace HB:=A_ (below_step bb_ hb);(try clear hb);(try clear hb2);(try clear hk);(try clear hi))|(go_at_call 51;(with_reducible refine (impl_AreLeastEnds.calls kj7 _ _ t1330 t1340 t1341 _ ?side1 ?side2 A38.out).mono ?_);(case side1=>exact cl_ (Kd.R_reads' HO1332.out).2.2);(case side2=>exact (Kd.R_reads' HO1332.out).2.1);rintro e w48 ⟨rfl,hb⟩;replace HO_5:=rb_ HO_5 hb;replace HO_1322001:=rb_ HO_1322001 hb;replace HO_1328001:=rb_ HO_1328001 hb;replace HO1332:=rb_ HO1332 hb;replace HO1336:=rb_ HO1336 hb;replace BK1321:=bz BK1321 hb;replace BK1327:=bz BK1327 hb;replace HB:=A_ (below_step bb_ hb);(try clear hb);(try clear hb2);(try clear hk);(try clear hi)))
      repeat (go_quiet (first|(go_at_call 48;(with_reducible refine (impl_EndsOf.calls kj7 t1316 _ _ t1317 t1330 t1333 _ ?side1 ?side2 ?side3 A35.out).mono ?_);(case side1=>exact cl_ (Kd.R_reads' HO_1322001.out).2.2);(case side2=>exact (Kd.R_reads' HO_1322001.out).2.1);(case side3=>first|exact HT.out|exact HT.out.below bb_|(repeat (first|exact HT.out|apply TabOK.drewN|apply TabOK.drew|apply TabOK.alloc)));rintro e w42 ⟨v1331,rfl,ho0,hb⟩;replace HO_1322001:=rb_ HO_1322001 hb;replace HO_1328001:=rb_ HO_1328001 hb;have HO1332:=A_ (Kd.R_lower (Kd.R_new' ho0 (Kd.R_lt (rl_ HO_5))) (below_size bb_));replace HO_5:=A_ (Kd.R_elder' (rl_ HO_5) (Kd.R_base ho0) hb);replace BK1321:=bz BK1321 hb;replace BK1327:=bz BK1327 hb;replace HB:=A_ (below_step bb_ hb);(try clear hb);(try clear hb2);(try clear hk);(try clear hi);(try clear ho0);have hcz43_0 : w42.cell? ⟨gb1321,0,none⟩ = some (.int .i64 t1316):=blk_cell BK1321.out 0;have hcz43_1 : w42.cell? ⟨gb1321,1,none⟩ = some (.slice Ao14 t1317.length co14):=blk_cell BK1321.out 1;have hfz43_0:=blk_frozen BK1321.out 0;have hfz43_1:=blk_frozen BK1321.out 1)|(go_at_call 49;(with_reducible refine (spec_EndsOf.calls kj7 t1316 _ _ t1317 t1334 t1337 _ ?side1 ?side2 A36.out).mono ?_);(case side1=>exact cl_ (Kd.R_reads' HO_1322001.out).2.2);(case side2=>exact (Kd.R_reads' HO_1322001.out).2.1);rintro e w44 ⟨v1335,rfl,ho0,hb⟩;replace HO_1322001:=rb_ HO_1322001 hb;replace HO_1328001:=rb_ HO_1328001 hb;have HO1336:=A_ (Kd.R_lower (Kd.R_new' (Kd.R_new' ho0 (Kd.R_lt (rl_ HO_5))) (Kd.R_lt (rl_ HO1332))) (below_size bb_));replace HO_5:=A_ (Kd.R_elder' (rl_ HO_5) (Kd.R_base ho0) hb);replace HO1332:=A_ (Kd.R_elder' (rl_ HO1332) (Kd.R_base ho0) hb);replace BK1321:=bz BK1321 hb;replace BK1327:=bz BK1327 hb;replace HB:=A_ (below_step bb_ hb);(try clear hb);(try clear hb2);(try clear hk);(try clear hi);(try clear ho0);have hcz45_0 : w44.cell? ⟨gb1321,0,none⟩ = some (.int .i64 t1316):=blk_cell BK1321.out 0;have hcz45_1 : w44.cell? ⟨gb1321,1,none⟩ = some (.slice Ao14 t1317.length co14):=blk_cell BK1321.out 1;have hfz45_0:=blk_frozen BK1321.out 0;have hfz45_1:=blk_frozen BK1321.out 1;obtain ⟨Ao46,co46,eo46⟩:=Kd.R_slice HO1332.out;subst eo46)|(go_at_call 50;(with_reducible refine (impl_DoRepresent.calls kj7 _ _ t1330 t1316 _ _ t1317 t1338 t1339 _ ?side1 ?side2 ?side3 ?side4 ?side5 A37.out).mono ?_);(case side1=>exact cl_ (Kd.R_reads' HO1332.out).2.2);(case side2=>exact (Kd.R_reads' HO1332.out).2.1);(case side3=>exact cl_ (Kd.R_reads' HO_1322001.out).2.2);(case side4=>exact (Kd.R_reads' HO_1322001.out).2.1);(case side5=>first|exact HT.out|exact HT.out.below bb_|(repeat (first|exact HT.out|apply TabOK.drewN|apply TabOK.drew|apply TabOK.alloc)));rintro e w47 ⟨rfl,hb⟩;replace HO_5:=rb_ HO_5 hb;replace HO_1322001:=rb_ HO_1322001 hb;replace HO_1328001:=rb_ HO_1328001 hb;replace HO1332:=rb_ HO1332 hb;replace HO1336:=rb_ HO1336 hb;replace BK1321:=bz BK1321 hb;replace BK1327:=bz BK1327 hb;replace HB:=A_ (below_step bb_ hb);(try clear hb);(try clear hb2);(try clear hk);(try clear hi))|(go_at_call 51;(with_reducible refine (impl_AreLeastEnds.calls kj7 _ _ t1330 t1340 t1341 _ ?side1 ?side2 A38.out).mono ?_);(case side1=>exact cl_ (Kd.R_reads' HO1332.out).2.2);(case side2=>exact (Kd.R_reads' HO1332.out).2.1);rintro e w48 ⟨rfl,hb⟩;replace HO_5:=rb_ HO_5 hb;replace HO_1322001:=rb_ HO_1322001 hb;replace HO_1328001:=rb_ HO_1328001 hb;replace HO1332:=rb_ HO1332 hb;replace HO1336:=rb_ HO1336 hb;replace BK1321:=bz BK1321 hb;replace BK1327:=bz BK1327 hb;replace HB:=A_ (below_step bb_ hb);(try clear hb);(try clear hb2);(try clear hk);(try clear hi)));go_upto_region 14 with (first|(go_at_call 48;(with_reducible refine (impl_EndsOf.calls kj7 t1316 _ _ t1317 t1330 t1333 _ ?side1 ?side2 ?side3 A35.out).mono ?_);(case side1=>exact cl_ (Kd.R_reads' HO_1322001.out).2.2);(case side2=>exact (Kd.R_reads' HO_1322001.out).2.1);(case side3=>first|exact HT.out|exact HT.out.below bb_|(repeat (first|exact HT.out|apply TabOK.drewN|apply TabOK.drew|apply TabOK.alloc)));rintro e w42 ⟨v1331,rfl,ho0,hb⟩;replace HO_1322001:=rb_ HO_1322001 hb;replace HO_1328001:=rb_ HO_1328001 hb;have HO1332:=A_ (Kd.R_lower (Kd.R_new' ho0 (Kd.R_lt (rl_ HO_5))) (below_size bb_));replace HO_5:=A_ (Kd.R_elder' (rl_ HO_5) (Kd.R_base ho0) hb);replace BK1321:=bz BK1321 hb;replace BK1327:=bz BK1327 hb;replace HB:=A_ (below_step bb_ hb);(try clear hb);(try clear hb2);(try clear hk);(try clear hi);(try clear ho0);have hcz43_0 : w42.cell? ⟨gb1321,0,none⟩ = some (.int .i64 t1316):=blk_cell BK1321.out 0;have hcz43_1 : w42.cell? ⟨gb1321,1,none⟩ = some (.slice Ao14 t1317.length co14):=blk_cell BK1321.out 1;have hfz43_0:=blk_frozen BK1321.out 0;have hfz43_1:=blk_frozen BK1321.out 1)|(go_at_call 49;(with_reducible refine (spec_EndsOf.calls kj7 t1316 _ _ t1317 t1334 t1337 _ ?side1 ?side2 A36.out).mono ?_);(case side1=>exact cl_ (Kd.R_reads' HO_1322001.out).2.2);(case side2=>exact (Kd.R_reads' HO_1322001.out).2.1);rintro e w44 ⟨v1335,rfl,ho0,hb⟩;replace HO_1322001:=rb_ HO_1322001 hb;replace HO_1328001:=rb_ HO_1328001 hb;have HO1336:=A_ (Kd.R_lower (Kd.R_new' (Kd.R_new' ho0 (Kd.R_lt (rl_ HO_5))) (Kd.R_lt (rl_ HO1332))) (below_size bb_));replace HO_5:=A_ (Kd.R_elder' (rl_ HO_5) (Kd.R_base ho0) hb);replace HO1332:=A_ (Kd.R_elder' (rl_ HO1332) (Kd.R_base ho0) hb);replace BK1321:=bz BK1321 hb;replace BK1327:=bz BK1327 hb;replace HB:=A_ (below_step bb_ hb);(try clear hb);(try clear hb2);(try clear hk);(try clear hi);(try clear ho0);have hcz45_0 : w44.cell? ⟨gb1321,0,none⟩ = some (.int .i64 t1316):=blk_cell BK1321.out 0;have hcz45_1 : w44.cell? ⟨gb1321,1,none⟩ = some (.slice Ao14 t1317.length co14):=blk_cell BK1321.out 1;have hfz45_0:=blk_frozen BK1321.out 0;have hfz45_1:=blk_frozen BK1321.out 1;obtain ⟨Ao46,co46,eo46⟩:=Kd.R_slice HO1332.out;subst eo46)|(go_at_call 50;(with_reducible refine (impl_DoRepresent.calls kj7 _ _ t1330 t1316 _ _ t1317 t1338 t1339 _ ?side1 ?side2 ?side3 ?side4 ?side5 A37.out).mono ?_);(case side1=>exact cl_ (Kd.R_reads' HO1332.out).2.2);(case side2=>exact (Kd.R_reads' HO1332.out).2.1);(case side3=>exact cl_ (Kd.R_reads' HO_1322001.out).2.2);(case side4=>exact (Kd.R_reads' HO_1322001.out).2.1);(case side5=>first|exact HT.out|exact HT.out.below bb_|(repeat (first|exact HT.out|apply TabOK.drewN|apply TabOK.drew|apply TabOK.alloc)));rintro e w47 ⟨rfl,hb⟩;replace HO_5:=rb_ HO_5 hb;replace HO_1322001:=rb_ HO_1322001 hb;replace HO_1328001:=rb_ HO_1328001 hb;replace HO1332:=rb_ HO1332 hb;replace HO1336:=rb_ HO1336 hb;replace BK1321:=bz BK1321 hb;replace BK1327:=bz BK1327 hb;replace HB:=A_ (below_step bb_ hb);(try clear hb);(try clear hb2);(try clear hk);(try clear hi))|(go_at_call 51;(with_reducible refine (impl_AreLeastEnds.calls kj7 _ _ t1330 t1340 t1341 _ ?side1 ?side2 A38.out).mono ?_);(case side1=>exact cl_ (Kd.R_reads' HO1332.out).2.2);(case side2=>exact (Kd.R_reads' HO1332.out).2.1);rintro e w48 ⟨rfl,hb⟩;replace HO_5:=rb_ HO_5 hb;replace HO_1322001:=rb_ HO_1322001 hb;replace HO_1328001:=rb_ HO_1328001 hb;replace HO1332:=rb_ HO1332 hb;replace HO1336:=rb_ HO1336 hb;replace BK1321:=bz BK1321 hb;replace BK1327:=bz BK1327 hb;replace HB:=A_ (below_step bb_ hb);(try clear hb);(try clear hb2);(try clear hk);(try clear hi))))
      (try simp only [Act.put,L_,M_,N_]);go_cut [105] (fun v105 wc=>∃ (kq : Nat) (x105_38 : Bool),v105 = .bool x105_38 ∧ Aside0 (laws_FnEndsAreLeast.j1 kq t1313 t1330 x105_38 = some r) ∧ Aside0 (kq ≤ kj7) ∧ Aside0 (Kd.R k62 62 wc w.heap.size (fun k_=>some k_ ≠ ((.slice Ao46 t1330.length co46) : Value).ownBlock) (.slice Ao10 t1313.length co10) t1313) ∧ Aside0 (Kd.R k62 62 wc w.heap.size (fun k_=>some k_ ≠ ((.slice Ao10 t1313.length co10) : Value).ownBlock) (.slice Ao46 t1330.length co46) t1330) ∧ Aside0 (Kd.R (Kd.int .i64) 3 wc w.heap.size (fun k_=>some k_ ≠ ((.slice Ao19 t1323.length co19) : Value).ownBlock) (.slice Ao14 t1317.length co14) t1317) ∧ Aside0 (Kd.R (Kd.int .i64) 3 wc w.heap.size (fun k_=>some k_ ≠ ((.slice Ao14 t1317.length co14) : Value).ownBlock) (.slice Ao19 t1323.length co19) t1323) ∧ Aside0 (wc.heap[gb1321]? = some (.cells #[.int .i64 t1316,(.slice Ao14 t1317.length co14)] 28 (0,0))) ∧ Aside0 (wc.heap[gb1327]? = some (.cells #[.int .i64 t1322,(.slice Ao19 t1323.length co19)] 28 (0,0))) ∧ Aside0 (Below w.heap.size w wc))
      case first =>
       have H:=HC39.out;clear HC39;by_cases c49 : t1333 = true
       ·subst c49;have H1 : (if t1337 = true then (if t1339 = true then (if t1341 = true then (if t1338 = true then (if t1340 = true then ((laws_pSameIntervals.f kj7 t1330 t1334).bind fun t1342=>(laws_FnEndsAreLeast.j1 kj7 t1313 t1330 (!t1342))) else (laws_FnEndsAreLeast.j1 kj7 t1313 t1330 true)) else (laws_FnEndsAreLeast.j1 kj7 t1313 t1330 true)) else (laws_FnEndsAreLeast.j1 kj7 t1313 t1330 true)) else (laws_FnEndsAreLeast.j1 kj7 t1313 t1330 true)) else (laws_FnEndsAreLeast.j1 kj7 t1313 t1330 true)) = some r:=by rw [if_pos rfl] at H;exact H
        clear H;have H:=H1;clear H1;by_cases c50 : t1337 = true
        ·subst c50;have H1 : (if t1339 = true then (if t1341 = true then (if t1338 = true then (if t1340 = true then ((laws_pSameIntervals.f kj7 t1330 t1334).bind fun t1342=>(laws_FnEndsAreLeast.j1 kj7 t1313 t1330 (!t1342))) else (laws_FnEndsAreLeast.j1 kj7 t1313 t1330 true)) else (laws_FnEndsAreLeast.j1 kj7 t1313 t1330 true)) else (laws_FnEndsAreLeast.j1 kj7 t1313 t1330 true)) else (laws_FnEndsAreLeast.j1 kj7 t1313 t1330 true)) = some r:=by rw [if_pos rfl] at H;exact H
         clear H;have H:=H1;clear H1;by_cases c51 : t1339 = true
         ·subst c51;have H1 : (if t1341 = true then (if t1338 = true then (if t1340 = true then ((laws_pSameIntervals.f kj7 t1330 t1334).bind fun t1342=>(laws_FnEndsAreLeast.j1 kj7 t1313 t1330 (!t1342))) else (laws_FnEndsAreLeast.j1 kj7 t1313 t1330 true)) else (laws_FnEndsAreLeast.j1 kj7 t1313 t1330 true)) else (laws_FnEndsAreLeast.j1 kj7 t1313 t1330 true)) = some r:=by rw [if_pos rfl] at H;exact H
          clear H;have H:=H1;clear H1;by_cases c52 : t1341 = true
          ·subst c52;have H1 : (if t1338 = true then (if t1340 = true then ((laws_pSameIntervals.f kj7 t1330 t1334).bind fun t1342=>(laws_FnEndsAreLeast.j1 kj7 t1313 t1330 (!t1342))) else (laws_FnEndsAreLeast.j1 kj7 t1313 t1330 true)) else (laws_FnEndsAreLeast.j1 kj7 t1313 t1330 true)) = some r:=by rw [if_pos rfl] at H;exact H
           clear H;have H:=H1;clear H1;by_cases c53 : t1338 = true
           ·subst c53;have H1 : (if t1340 = true then ((laws_pSameIntervals.f kj7 t1330 t1334).bind fun t1342=>(laws_FnEndsAreLeast.j1 kj7 t1313 t1330 (!t1342))) else (laws_FnEndsAreLeast.j1 kj7 t1313 t1330 true)) = some r:=by rw [if_pos rfl] at H;exact H
            clear H;have H:=H1;clear H1;by_cases c54 : t1340 = true
            ·subst c54;have H1 : ((laws_pSameIntervals.f kj7 t1330 t1334).bind fun t1342=>(laws_FnEndsAreLeast.j1 kj7 t1313 t1330 (!t1342))) = some r:=by rw [if_pos rfl] at H;exact H
             clear H;have H:=H1;clear H1;replace H:=Option.bind_eq_some_iff.mp H;obtain ⟨t1342,A550,H⟩:=H;replace H : (laws_FnEndsAreLeast.j1 kj7 t1313 t1330 (!t1342)) = some r:=H;have A55:=A_ A550;clear A550;have H':=A_ H;clear H;obtain ⟨Ao56,co56,eo56⟩:=Kd.R_slice HO1336.out;subst eo56;go_wp2_with (first|(go_at_call 52;(with_reducible refine (laws_pSameIntervals.calls kj7 _ _ t1330 _ _ t1334 t1342 _ ?side1 ?side2 ?side3 ?side4 A55.out).mono ?_);(case side1=>exact cl_ (Kd.R_reads' HO1332.out).2.2);(case side2=>exact (Kd.R_reads' HO1332.out).2.1);(case side3=>exact cl_ (Kd.R_reads' HO1336.out).2.2);(case side4=>exact (Kd.R_reads' HO1336.out).2.1);rintro e w' ⟨rfl,⟨nd,rfl⟩⟩;(try first|exact ⟨rfl,_,World.drewN_drewN _ _ _⟩|exact ⟨rfl,_,Eq.trans (World.drewN_drewN _ _ _) (congrArg (World.drewN _) (Nat.add_assoc _ _ _))⟩)))
             repeat (go_quiet (first|(go_at_call 52;(with_reducible refine (laws_pSameIntervals.calls kj7 _ _ t1330 _ _ t1334 t1342 _ ?side1 ?side2 ?side3 ?side4 A55.out).mono ?_);(case side1=>exact cl_ (Kd.R_reads' HO1332.out).2.2);(case side2=>exact (Kd.R_reads' HO1332.out).2.1);(case side3=>exact cl_ (Kd.R_reads' HO1336.out).2.2);(case side4=>exact (Kd.R_reads' HO1336.out).2.1);rintro e w' ⟨rfl,⟨nd,rfl⟩⟩;(try first|exact ⟨rfl,_,World.drewN_drewN _ _ _⟩|exact ⟨rfl,_,Eq.trans (World.drewN_drewN _ _ _) (congrArg (World.drewN _) (Nat.add_assoc _ _ _))⟩)));try go_wp2_with (first|(go_at_call 52;(with_reducible refine (laws_pSameIntervals.calls kj7 _ _ t1330 _ _ t1334 t1342 _ ?side1 ?side2 ?side3 ?side4 A55.out).mono ?_);(case side1=>exact cl_ (Kd.R_reads' HO1332.out).2.2);(case side2=>exact (Kd.R_reads' HO1332.out).2.1);(case side3=>exact cl_ (Kd.R_reads' HO1336.out).2.2);(case side4=>exact (Kd.R_reads' HO1336.out).2.1);rintro e w' ⟨rfl,⟨nd,rfl⟩⟩;(try first|exact ⟨rfl,_,World.drewN_drewN _ _ _⟩|exact ⟨rfl,_,Eq.trans (World.drewN_drewN _ _ _) (congrArg (World.drewN _) (Nat.add_assoc _ _ _))⟩))))
             go_meet
             case rel=>exact ⟨_,(!t1342),(by first|rfl|(simp;done)|(simp [*];done)),H',⟨by have:=HJ7.out;first|omega|exact Nat.le_refl _⟩,⟨by (with_reducible repeat (first|apply Kd.R_alloc|apply Kd.R_drewN|apply Kd.R_drew));exact Kd.R_mono HO_5.out (fun _ hk=>hk.1.2)⟩,⟨by (with_reducible repeat (first|apply Kd.R_alloc|apply Kd.R_drewN|apply Kd.R_drew));exact Kd.R_mono HO1332.out (fun _ hk=>hk.1.2)⟩,⟨by (with_reducible repeat (first|apply Kd.R_alloc|apply Kd.R_drewN|apply Kd.R_drew));exact HO_1322001.out⟩,⟨by (with_reducible repeat (first|apply Kd.R_alloc|apply Kd.R_drewN|apply Kd.R_drew));exact HO_1328001.out⟩,⟨bl_ BK1321⟩,⟨bl_ BK1327⟩,⟨bb_⟩⟩
            ·replace c54:=Bool.eq_false_iff.mpr c54;subst c54;have H1 : (laws_FnEndsAreLeast.j1 kj7 t1313 t1330 true) = some r:=by rw [if_neg (show ¬ (false = true) by decide)] at H;exact H
             clear H;have H:=H1;clear H1;have H':=A_ H;clear H;go_wp2
             repeat (go_quiet (fail);try go_wp2)
             go_meet
             case rel=>exact ⟨_,(true),(by first|rfl|(simp;done)|(simp [*];done)),H',⟨by have:=HJ7.out;first|omega|exact Nat.le_refl _⟩,⟨by (with_reducible repeat (first|apply Kd.R_alloc|apply Kd.R_drewN|apply Kd.R_drew));exact Kd.R_mono HO_5.out (fun _ hk=>hk.1.2)⟩,⟨by (with_reducible repeat (first|apply Kd.R_alloc|apply Kd.R_drewN|apply Kd.R_drew));exact Kd.R_mono HO1332.out (fun _ hk=>hk.1.2)⟩,⟨by (with_reducible repeat (first|apply Kd.R_alloc|apply Kd.R_drewN|apply Kd.R_drew));exact HO_1322001.out⟩,⟨by (with_reducible repeat (first|apply Kd.R_alloc|apply Kd.R_drewN|apply Kd.R_drew));exact HO_1328001.out⟩,⟨bl_ BK1321⟩,⟨bl_ BK1327⟩,⟨bb_⟩⟩
           ·replace c53:=Bool.eq_false_iff.mpr c53;subst c53;have H1 : (laws_FnEndsAreLeast.j1 kj7 t1313 t1330 true) = some r:=by rw [if_neg (show ¬ (false = true) by decide)] at H;exact H
            clear H;have H:=H1;clear H1;have H':=A_ H;clear H;go_wp2
            repeat (go_quiet (fail);try go_wp2)
            go_meet
            case rel=>exact ⟨_,(true),(by first|rfl|(simp;done)|(simp [*];done)),H',⟨by have:=HJ7.out;first|omega|exact Nat.le_refl _⟩,⟨by (with_reducible repeat (first|apply Kd.R_alloc|apply Kd.R_drewN|apply Kd.R_drew));exact Kd.R_mono HO_5.out (fun _ hk=>hk.1.2)⟩,⟨by (with_reducible repeat (first|apply Kd.R_alloc|apply Kd.R_drewN|apply Kd.R_drew));exact Kd.R_mono HO1332.out (fun _ hk=>hk.1.2)⟩,⟨by (with_reducible repeat (first|apply Kd.R_alloc|apply Kd.R_drewN|apply Kd.R_drew));exact HO_1322001.out⟩,⟨by (with_reducible repeat (first|apply Kd.R_alloc|apply Kd.R_drewN|apply Kd.R_drew));exact HO_1328001.out⟩,⟨bl_ BK1321⟩,⟨bl_ BK1327⟩,⟨bb_⟩⟩
          ·replace c52:=Bool.eq_false_iff.mpr c52;subst c52;have H1 : (laws_FnEndsAreLeast.j1 kj7 t1313 t1330 true) = some r:=by rw [if_neg (show ¬ (false = true) by decide)] at H;exact H
           clear H;have H:=H1;clear H1;have H':=A_ H;clear H;go_wp2
           repeat (go_quiet (fail);try go_wp2)
           go_meet
           case rel=>exact ⟨_,(true),(by first|rfl|(simp;done)|(simp [*];done)),H',⟨by have:=HJ7.out;first|omega|exact Nat.le_refl _⟩,⟨by (with_reducible repeat (first|apply Kd.R_alloc|apply Kd.R_drewN|apply Kd.R_drew));exact Kd.R_mono HO_5.out (fun _ hk=>hk.1.2)⟩,⟨by (with_reducible repeat (first|apply Kd.R_alloc|apply Kd.R_drewN|apply Kd.R_drew));exact Kd.R_mono HO1332.out (fun _ hk=>hk.1.2)⟩,⟨by (with_reducible repeat (first|apply Kd.R_alloc|apply Kd.R_drewN|apply Kd.R_drew));exact HO_1322001.out⟩,⟨by (with_reducible repeat (first|apply Kd.R_alloc|apply Kd.R_drewN|apply Kd.R_drew));exact HO_1328001.out⟩,⟨bl_ BK1321⟩,⟨bl_ BK1327⟩,⟨bb_⟩⟩
         ·replace c51:=Bool.eq_false_iff.mpr c51;subst c51;have H1 : (laws_FnEndsAreLeast.j1 kj7 t1313 t1330 true) = some r:=by rw [if_neg (show ¬ (false = true) by decide)] at H;exact H
          clear H;have H:=H1;clear H1;have H':=A_ H;clear H;go_wp2
          repeat (go_quiet (fail);try go_wp2)
          go_meet
          case rel=>exact ⟨_,(true),(by first|rfl|(simp;done)|(simp [*];done)),H',⟨by have:=HJ7.out;first|omega|exact Nat.le_refl _⟩,⟨by (with_reducible repeat (first|apply Kd.R_alloc|apply Kd.R_drewN|apply Kd.R_drew));exact Kd.R_mono HO_5.out (fun _ hk=>hk.1.2)⟩,⟨by (with_reducible repeat (first|apply Kd.R_alloc|apply Kd.R_drewN|apply Kd.R_drew));exact Kd.R_mono HO1332.out (fun _ hk=>hk.1.2)⟩,⟨by (with_reducible repeat (first|apply Kd.R_alloc|apply Kd.R_drewN|apply Kd.R_drew));exact HO_1322001.out⟩,⟨by (with_reducible repeat (first|apply Kd.R_alloc|apply Kd.R_drewN|apply Kd.R_drew));exact HO_1328001.out⟩,⟨bl_ BK1321⟩,⟨bl_ BK1327⟩,⟨bb_⟩⟩
        ·replace c50:=Bool.eq_false_iff.mpr c50;subst c50;have H1 : (laws_FnEndsAreLeast.j1 kj7 t1313 t1330 true) = some r:=by rw [if_neg (show ¬ (false = true) by decide)] at H;exact H
         clear H;have H:=H1;clear H1;have H':=A_ H;clear H;go_wp2
         repeat (go_quiet (fail);try go_wp2)
         go_meet
         case rel=>exact ⟨_,(true),(by first|rfl|(simp;done)|(simp [*];done)),H',⟨by have:=HJ7.out;first|omega|exact Nat.le_refl _⟩,⟨by (with_reducible repeat (first|apply Kd.R_alloc|apply Kd.R_drewN|apply Kd.R_drew));exact Kd.R_mono HO_5.out (fun _ hk=>hk.1.2)⟩,⟨by (with_reducible repeat (first|apply Kd.R_alloc|apply Kd.R_drewN|apply Kd.R_drew));exact Kd.R_mono HO1332.out (fun _ hk=>hk.1.2)⟩,⟨by (with_reducible repeat (first|apply Kd.R_alloc|apply Kd.R_drewN|apply Kd.R_drew));exact HO_1322001.out⟩,⟨by (with_reducible repeat (first|apply Kd.R_alloc|apply Kd.R_drewN|apply Kd.R_drew));exact HO_1328001.out⟩,⟨bl_ BK1321⟩,⟨bl_ BK1327⟩,⟨bb_⟩⟩
       ·replace c49:=Bool.eq_false_iff.mpr c49;subst c49;have H1 : (laws_FnEndsAreLeast.j1 kj7 t1313 t1330 true) = some r:=by rw [if_neg (show ¬ (false = true) by decide)] at H;exact H
        clear H;have H:=H1;clear H1;have H':=A_ H;clear H;go_wp2
        repeat (go_quiet (fail);try go_wp2)
        go_meet
        case rel=>exact ⟨_,(true),(by first|rfl|(simp;done)|(simp [*];done)),H',⟨by have:=HJ7.out;first|omega|exact Nat.le_refl _⟩,⟨by (with_reducible repeat (first|apply Kd.R_alloc|apply Kd.R_drewN|apply Kd.R_drew));exact Kd.R_mono HO_5.out (fun _ hk=>hk.1.2)⟩,⟨by (with_reducible repeat (first|apply Kd.R_alloc|apply Kd.R_drewN|apply Kd.R_drew));exact Kd.R_mono HO1332.out (fun _ hk=>hk.1.2)⟩,⟨by (with_reducible repeat (first|apply Kd.R_alloc|apply Kd.R_drewN|apply Kd.R_drew));exact HO_1322001.out⟩,⟨by (with_reducible repeat (first|apply Kd.R_alloc|apply Kd.R_drewN|apply Kd.R_drew));exact HO_1328001.out⟩,⟨bl_ BK1321⟩,⟨bl_ BK1327⟩,⟨bb_⟩⟩
      case rest =>
       clear HC39;try clear c1
       try clear c2
       try clear p2
       try clear c3
       try clear c4
       try clear c5
       try clear c6
       try clear c17
       try clear c20
       try clear c20b0
       try clear c20b1
       try clear c20b2
       try clear c22
       try clear c24
       try clear c29
       try clear c33
       try clear c34
       try clear c40
       try clear c49
       try clear c50
       try clear c51
       try clear c52
       try clear c53
       try clear c54
       try clear hcz13_0
       try clear hcz13_1
       try clear hcz18_0
       try clear hcz18_1
       try clear hcz25_0
       try clear hcz25_1
       try clear hcz26_0
       try clear hcz26_1
       try clear hcz30_0
       try clear hcz30_1
       try clear hcz31_0
       try clear hcz31_1
       try clear hcz41_0
       try clear hcz41_1
       try clear hcz43_0
       try clear hcz43_1
       try clear hcz45_0
       try clear hcz45_1
       try clear hfz13_0
       try clear hfz13_1
       try clear hfz18_0
       try clear hfz18_1
       try clear hfz25_0
       try clear hfz25_1
       try clear hfz26_0
       try clear hfz26_1
       try clear hfz30_0
       try clear hfz30_1
       try clear hfz31_0
       try clear hfz31_1
       try clear hfz41_0
       try clear hfz41_1
       try clear hfz43_0
       try clear hfz43_1
       try clear hfz45_0
       try clear hfz45_1
       try clear p2
       obtain ⟨kq,x105_38,rfl,HA,HJ38,HO_5,HO_10,HO_1322001,HO_1328001,BK1321,BK1327,HB⟩:=hcut;cases kq with
       | zero=>exact absurd HA.out (by simp [laws_FnEndsAreLeast.j1])
       | succ kj38 =>
        have H:=HA.out;clear HA;simp only [laws_FnEndsAreLeast.j1] at H
        by_cases c57 : x105_38 = true
        ·subst c57;have H1 : (some false) = some r:=by rw [if_pos rfl] at H;exact H
         clear H;have H:=H1;clear H1;obtain rfl:=Option.some.inj H;go_wp2
         repeat (go_quiet (fail);try go_wp2)
         go_ret
         exact ⟨by first|rfl|(simp [errW_none,errW_some] <;> rfl)|(simp [*,errW_none,errW_some] <;> rfl),bb_⟩
        ·replace c57:=Bool.eq_false_iff.mpr c57;subst c57;have H1 : (laws_FnEndsAreLeast.l0 kj38 t1313 t1330 0 t1313 (t1313.length : Int) 0) = some r:=by rw [if_neg (show ¬ (false = true) by decide)] at H;exact H
         clear H;have H:=H1;clear H1;have H':=A_ H;clear H;go_wp2
         repeat (go_quiet (fail);try go_wp2)
         go_loopg [18,108] kj38 (fun kq v18 v108 w'=>∃ (x18_3 : Int) (x108_3 : Int),v18 = .int .i64 x18_3 ∧ v108 = .int .i64 x108_3 ∧ Aside0 (laws_FnEndsAreLeast.l0 kq t1313 t1330 x18_3 t1313 (t1313.length : Int) x108_3 = some r) ∧ Aside0 (kq ≤ kj38) ∧ Aside0 (Kd.R k62 62 w' w.heap.size (fun k_=>some k_ ≠ ((.slice Ao46 t1330.length co46) : Value).ownBlock) (.slice Ao10 t1313.length co10) t1313) ∧ Aside0 (Kd.R k62 62 w' w.heap.size (fun k_=>some k_ ≠ ((.slice Ao10 t1313.length co10) : Value).ownBlock ∧ some k_ ≠ ((.slice Ao10 t1313.length co10) : Value).ownBlock) (.slice Ao46 t1330.length co46) t1330) ∧ Aside0 (Kd.R k62 62 w' w.heap.size (fun k_=>some k_ ≠ ((.slice Ao46 t1330.length co46) : Value).ownBlock) (.slice Ao10 t1313.length co10) t1313) ∧ Aside0 (Kd.R (Kd.int .i64) 3 w' w.heap.size (fun k_=>some k_ ≠ ((.slice Ao19 t1323.length co19) : Value).ownBlock) (.slice Ao14 t1317.length co14) t1317) ∧ Aside0 (Kd.R (Kd.int .i64) 3 w' w.heap.size (fun k_=>some k_ ≠ ((.slice Ao14 t1317.length co14) : Value).ownBlock) (.slice Ao19 t1323.length co19) t1323) ∧ Aside0 (w'.heap[gb1321]? = some (.cells #[.int .i64 t1316,(.slice Ao14 t1317.length co14)] 28 (0,0))) ∧ Aside0 (w'.heap[gb1327]? = some (.cells #[.int .i64 t1322,(.slice Ao19 t1323.length co19)] 28 (0,0))) ∧ Aside0 (Below w.heap.size w w'))
         case atStart=>exact ⟨(0),(0),(by first|rfl|(simp;done)|(simp [*];done)),(by first|rfl|(simp;done)|(simp [*];done)),H',⟨Nat.le_refl _⟩,⟨by (with_reducible repeat (first|apply Kd.R_alloc|apply Kd.R_drewN|apply Kd.R_drew));exact HO_5.out⟩,⟨by (with_reducible repeat (first|apply Kd.R_alloc|apply Kd.R_drewN|apply Kd.R_drew));exact Kd.R_mono HO_10.out (fun _ hk=>⟨hk,hk⟩)⟩,⟨by (with_reducible repeat (first|apply Kd.R_alloc|apply Kd.R_drewN|apply Kd.R_drew));exact HO_5.out⟩,⟨by (with_reducible repeat (first|apply Kd.R_alloc|apply Kd.R_drewN|apply Kd.R_drew));exact HO_1322001.out⟩,⟨by (with_reducible repeat (first|apply Kd.R_alloc|apply Kd.R_drewN|apply Kd.R_drew));exact HO_1328001.out⟩,⟨bl_ BK1321⟩,⟨bl_ BK1327⟩,⟨bb_⟩⟩
         case round =>
          clear H';try clear c1
          try clear c2
          try clear p2
          try clear c3
          try clear c4
          try clear c5
          try clear c6
          try clear c17
          try clear c20
          try clear c20b0
          try clear c20b1
          try clear c20b2
          try clear c22
          try clear c24
          try clear c29
          try clear c33
          try clear c34
          try clear c40
          try clear c49
          try clear c50
          try clear c51
          try clear c52
          try clear c53
          try clear c54
          try clear c57
          try clear hcz13_0
          try clear hcz13_1
          try clear hcz18_0
          try clear hcz18_1
          try clear hcz25_0
          try clear hcz25_1
          try clear hcz26_0
          try clear hcz26_1
          try clear hcz30_0
          try clear hcz30_1
          try clear hcz31_0
          try clear hcz31_1
          try clear hcz41_0
          try clear hcz41_1
          try clear hcz43_0
          try clear hcz43_1
          try clear hcz45_0
          try clear hcz45_1
          try clear hfz13_0
          try clear hfz13_1
          try clear hfz18_0
          try clear hfz18_1
          try clear hfz25_0
          try clear hfz25_1
          try clear hfz26_0
          try clear hfz26_1
          try clear hfz30_0
          try clear hfz30_1
          try clear hfz31_0
          try clear hfz31_1
          try clear hfz41_0
          try clear hfz41_1
          try clear hfz43_0
          try clear hfz43_1
          try clear hfz45_0
          try clear hfz45_1
          try clear p2
          obtain ⟨x18_3,x108_3,rfl,rfl,HA,HK3,HO_5,HO_10,HO_106,HO_1322001,HO_1328001,BK1321,BK1327,HB⟩:=hrel;cases gk with
          | zero=>exact absurd HA.out (by simp [laws_FnEndsAreLeast.l0])
          | succ k3 =>
           have H:=HA.out;clear HA;simp only [laws_FnEndsAreLeast.l0] at H
           by_cases c58 : x108_3 < (t1313.length : Int)
           ·rw [if_pos c58] at H;have c58b0 : decide (x108_3 < (t1313.length : Int)) = true:=decide_eq_true c58;clear c58;by_cases c59 : 0 ≤ x108_3
            ·rw [if_pos c59] at H;have c59b0 : decide (0 ≤ x108_3) = true:=decide_eq_true c59;clear c59;by_cases c60 : x108_3 < (t1313.length : Int)
             ·rw [if_pos c60] at H;have c60b0 : decide (x108_3 < (t1313.length : Int)) = true:=decide_eq_true c60;clear c60;by_cases c61 : ((rd_T62 t1313 x108_3).f0) < x18_3
              ·rw [if_pos c61] at H;have c61b0 : decide (((rd_T62 t1313 x108_3).f0) < x18_3) = true:=decide_eq_true c61;clear c61;have H':=A_ H;clear H;have p1343 : 0 ≤ (x108_3 : Int):=of_decide_eq_true (by first|(with_reducible assumption)|assumption);have q1343 : x108_3 < (t1313.length : Int):=of_decide_eq_true (by first|(with_reducible assumption)|assumption);obtain ⟨ad1343,e1343,hx1343_0,hx1343_1⟩:=at_T62 (Kd.R_reads' HO_106.out).2.2 x108_3 p1343 q1343;cases e1343
               replace p1343:=eq_true p1343;replace q1343:=eq_true q1343;go_wp2_with (first|((with_reducible refine gate_dst (N:=20) rfl ?_);refine box_event ?hg (N:=20) ?hd (cs:=#[.int .i64 0,.int .i64 0]) (t:=62) ?hr ?_;(case hd=>rfl);(case hg=>rfl);(case hr=>first|(go_simp;done)|(go_simp;rfl));intro gb1344 hg w62 hbox hb;replace HO_5:=A_ (Kd.R_below (Kd.R_elderB (rl_ HO_5) gb1344 (Nat.le_of_eq hg.symm)) hb);replace HO_10:=A_ (Kd.R_below (Kd.R_elderB (rl_ HO_10) gb1344 (Nat.le_of_eq hg.symm)) hb);replace HO_106:=A_ (Kd.R_below (Kd.R_elderB (rl_ HO_106) gb1344 (Nat.le_of_eq hg.symm)) hb);replace HO_1322001:=rb_ HO_1322001 hb;replace HO_1328001:=rb_ HO_1328001 hb;have BK1344:=A_ (hbox);have GW1344:=A_ ((by rw [hg];exact (below_size bb_) : w.heap.size ≤ gb1344));have GE1344:=A_ ((by rw [hg];exact (below_size bb_) : w.heap.size ≤ gb1344));replace HB:=A_ (below_step bb_ hb);have NB1321_1344:=A_ ((by rw [hg];exact Nat.ne_of_lt (blk_lt (bl_ BK1321)) : gb1321 ≠ gb1344));have NB1344_1321:=A_ ((by rw [hg];exact Nat.ne_of_gt (blk_lt (bl_ BK1321)) : gb1344 ≠ gb1321));replace BK1321:=bz BK1321 hb;have NB1327_1344:=A_ ((by rw [hg];exact Nat.ne_of_lt (blk_lt (bl_ BK1327)) : gb1327 ≠ gb1344));have NB1344_1327:=A_ ((by rw [hg];exact Nat.ne_of_gt (blk_lt (bl_ BK1327)) : gb1344 ≠ gb1327));replace BK1327:=bz BK1327 hb;clear hb hbox hg;have hnb63:=NB1344_1321.out;have hnc63:=NB1321_1344.out;have hnb64:=NB1344_1327.out;have hnc64:=NB1327_1344.out;have hcz65_0 : w62.cell? ⟨gb1344,0,none⟩ = some (.int .i64 0):=blk_cell BK1344.out 0;have hcz65_1 : w62.cell? ⟨gb1344,1,none⟩ = some (.int .i64 0):=blk_cell BK1344.out 1;have hfz65_0:=blk_frozen BK1344.out 0;have hfz65_1:=blk_frozen BK1344.out 1))
               repeat (go_quiet (first|((with_reducible refine gate_dst (N:=20) rfl ?_);refine box_event ?hg (N:=20) ?hd (cs:=#[.int .i64 0,.int .i64 0]) (t:=62) ?hr ?_;(case hd=>rfl);(case hg=>rfl);(case hr=>first|(go_simp;done)|(go_simp;rfl));intro gb1344 hg w62 hbox hb;replace HO_5:=A_ (Kd.R_below (Kd.R_elderB (rl_ HO_5) gb1344 (Nat.le_of_eq hg.symm)) hb);replace HO_10:=A_ (Kd.R_below (Kd.R_elderB (rl_ HO_10) gb1344 (Nat.le_of_eq hg.symm)) hb);replace HO_106:=A_ (Kd.R_below (Kd.R_elderB (rl_ HO_106) gb1344 (Nat.le_of_eq hg.symm)) hb);replace HO_1322001:=rb_ HO_1322001 hb;replace HO_1328001:=rb_ HO_1328001 hb;have BK1344:=A_ (hbox);have GW1344:=A_ ((by rw [hg];exact (below_size bb_) : w.heap.size ≤ gb1344));have GE1344:=A_ ((by rw [hg];exact (below_size bb_) : w.heap.size ≤ gb1344));replace HB:=A_ (below_step bb_ hb);have NB1321_1344:=A_ ((by rw [hg];exact Nat.ne_of_lt (blk_lt (bl_ BK1321)) : gb1321 ≠ gb1344));have NB1344_1321:=A_ ((by rw [hg];exact Nat.ne_of_gt (blk_lt (bl_ BK1321)) : gb1344 ≠ gb1321));replace BK1321:=bz BK1321 hb;have NB1327_1344:=A_ ((by rw [hg];exact Nat.ne_of_lt (blk_lt (bl_ BK1327)) : gb1327 ≠ gb1344));have NB1344_1327:=A_ ((by rw [hg];exact Nat.ne_of_gt (blk_lt (bl_ BK1327)) : gb1344 ≠ gb1327));replace BK1327:=bz BK1327 hb;clear hb hbox hg;have hnb63:=NB1344_1321.out;have hnc63:=NB1321_1344.out;have hnb64:=NB1344_1327.out;have hnc64:=NB1327_1344.out;have hcz65_0 : w62.cell? ⟨gb1344,0,none⟩ = some (.int .i64 0):=blk_cell BK1344.out 0;have hcz65_1 : w62.cell? ⟨gb1344,1,none⟩ = some (.int .i64 0):=blk_cell BK1344.out 1;have hfz65_0:=blk_frozen BK1344.out 0;have hfz65_1:=blk_frozen BK1344.out 1));try go_wp2_with (first|((with_reducible refine gate_dst (N:=20) rfl ?_);refine box_event ?hg (N:=20) ?hd (cs:=#[.int .i64 0,.int .i64 0]) (t:=62) ?hr ?_;(case hd=>rfl);(case hg=>rfl);(case hr=>first|(go_simp;done)|(go_simp;rfl));intro gb1344 hg w62 hbox hb;replace HO_5:=A_ (Kd.R_below (Kd.R_elderB (rl_ HO_5) gb1344 (Nat.le_of_eq hg.symm)) hb);replace HO_10:=A_ (Kd.R_below (Kd.R_elderB (rl_ HO_10) gb1344 (Nat.le_of_eq hg.symm)) hb);replace HO_106:=A_ (Kd.R_below (Kd.R_elderB (rl_ HO_106) gb1344 (Nat.le_of_eq hg.symm)) hb);replace HO_1322001:=rb_ HO_1322001 hb;replace HO_1328001:=rb_ HO_1328001 hb;have BK1344:=A_ (hbox);have GW1344:=A_ ((by rw [hg];exact (below_size bb_) : w.heap.size ≤ gb1344));have GE1344:=A_ ((by rw [hg];exact (below_size bb_) : w.heap.size ≤ gb1344));replace HB:=A_ (below_step bb_ hb);have NB1321_1344:=A_ ((by rw [hg];exact Nat.ne_of_lt (blk_lt (bl_ BK1321)) : gb1321 ≠ gb1344));have NB1344_1321:=A_ ((by rw [hg];exact Nat.ne_of_gt (blk_lt (bl_ BK1321)) : gb1344 ≠ gb1321));replace BK1321:=bz BK1321 hb;have NB1327_1344:=A_ ((by rw [hg];exact Nat.ne_of_lt (blk_lt (bl_ BK1327)) : gb1327 ≠ gb1344));have NB1344_1327:=A_ ((by rw [hg];exact Nat.ne_of_gt (blk_lt (bl_ BK1327)) : gb1344 ≠ gb1327));replace BK1327:=bz BK1327 hb;clear hb hbox hg;have hnb63:=NB1344_1321.out;have hnc63:=NB1321_1344.out;have hnb64:=NB1344_1327.out;have hnc64:=NB1327_1344.out;have hcz65_0 : w62.cell? ⟨gb1344,0,none⟩ = some (.int .i64 0):=blk_cell BK1344.out 0;have hcz65_1 : w62.cell? ⟨gb1344,1,none⟩ = some (.int .i64 0):=blk_cell BK1344.out 1;have hfz65_0:=blk_frozen BK1344.out 0;have hfz65_1:=blk_frozen BK1344.out 1)))
               go_roundg k3
               case measure=>have:=HJ7.out;have:=HJ38.out;have:=HK3.out;omega
               case rel=>exact ⟨((rd_T62 t1313 x108_3).f0),(wrap64 (x108_3 + 1)),(by first|rfl|(simp;done)|(simp [*];done)),(by first|rfl|(simp;done)|(simp [*];done)),H',⟨by have:=HJ7.out;have:=HJ38.out;have:=HK3.out;omega⟩,⟨by (with_reducible repeat (first|apply Kd.R_alloc|apply Kd.R_drewN|apply Kd.R_drew));exact Kd.R_mono (Kd.R_far (p:=⟨gb1344,1,none⟩) (Kd.R_far (p:=⟨gb1344,0,none⟩) (Kd.R_mono HO_5.out (fun k_ hk=>(⟨hk,hk.2⟩ : _ ∧ k_ ≠ gb1344))) (fun _ hk=>hk.2) (.int .i64 ((rd_T62 t1313 x108_3).f0))) (fun _ hk=>hk.2) (.int .i64 ((rd_T62 t1313 x108_3).f1))) (fun _ hk=>hk.1.1)⟩,⟨by (with_reducible repeat (first|apply Kd.R_alloc|apply Kd.R_drewN|apply Kd.R_drew));exact Kd.R_mono (Kd.R_far (p:=⟨gb1344,1,none⟩) (Kd.R_far (p:=⟨gb1344,0,none⟩) (Kd.R_mono HO_10.out (fun k_ hk=>(⟨hk,hk.2⟩ : _ ∧ k_ ≠ gb1344))) (fun _ hk=>hk.2) (.int .i64 ((rd_T62 t1313 x108_3).f0))) (fun _ hk=>hk.2) (.int .i64 ((rd_T62 t1313 x108_3).f1))) (fun _ hk=>⟨hk.1.1.1,hk.1.1.2⟩)⟩,⟨by (with_reducible repeat (first|apply Kd.R_alloc|apply Kd.R_drewN|apply Kd.R_drew));exact Kd.R_mono (Kd.R_far (p:=⟨gb1344,1,none⟩) (Kd.R_far (p:=⟨gb1344,0,none⟩) (Kd.R_mono HO_106.out (fun k_ hk=>(⟨hk,hk.2⟩ : _ ∧ k_ ≠ gb1344))) (fun _ hk=>hk.2) (.int .i64 ((rd_T62 t1313 x108_3).f0))) (fun _ hk=>hk.2) (.int .i64 ((rd_T62 t1313 x108_3).f1))) (fun _ hk=>hk.1.1)⟩,⟨by (with_reducible repeat (first|apply Kd.R_alloc|apply Kd.R_drewN|apply Kd.R_drew));exact Kd.R_mono (Kd.R_far (p:=⟨gb1344,1,none⟩) (Kd.R_far (p:=⟨gb1344,0,none⟩) (Kd.R_types HO_1322001.out BK1344.out (by decide)) (fun _ hk=>hk.2) (.int .i64 ((rd_T62 t1313 x108_3).f0))) (fun _ hk=>hk.2) (.int .i64 ((rd_T62 t1313 x108_3).f1))) (fun _ hk=>hk.1)⟩,⟨by (with_reducible repeat (first|apply Kd.R_alloc|apply Kd.R_drewN|apply Kd.R_drew));exact Kd.R_mono (Kd.R_far (p:=⟨gb1344,1,none⟩) (Kd.R_far (p:=⟨gb1344,0,none⟩) (Kd.R_types HO_1328001.out BK1344.out (by decide)) (fun _ hk=>hk.2) (.int .i64 ((rd_T62 t1313 x108_3).f0))) (fun _ hk=>hk.2) (.int .i64 ((rd_T62 t1313 x108_3).f1))) (fun _ hk=>hk.1)⟩,⟨by (with_reducible repeat (first|refine blk_drewN ?_ _|refine blk_drew ?_|refine blk_alloc ?_ _));refine blk_far ?_ NB1321_1344.out _;(with_reducible repeat (first|refine blk_drewN ?_ _|refine blk_drew ?_|refine blk_alloc ?_ _));refine blk_far ?_ NB1321_1344.out _;(with_reducible repeat (first|refine blk_drewN ?_ _|refine blk_drew ?_|refine blk_alloc ?_ _));exact BK1321.out⟩,⟨by (with_reducible repeat (first|refine blk_drewN ?_ _|refine blk_drew ?_|refine blk_alloc ?_ _));refine blk_far ?_ NB1327_1344.out _;(with_reducible repeat (first|refine blk_drewN ?_ _|refine blk_drew ?_|refine blk_alloc ?_ _));refine blk_far ?_ NB1327_1344.out _;(with_reducible repeat (first|refine blk_drewN ?_ _|refine blk_drew ?_|refine blk_alloc ?_ _));exact BK1327.out⟩,⟨bb_⟩⟩
              ·rw [if_neg c61] at H;have c61b0 : decide (((rd_T62 t1313 x108_3).f0) < x18_3) = false:=decide_eq_false c61;clear c61;have H':=A_ H;clear H;have p1343 : 0 ≤ (x108_3 : Int):=of_decide_eq_true (by first|(with_reducible assumption)|assumption);have q1343 : x108_3 < (t1313.length : Int):=of_decide_eq_true (by first|(with_reducible assumption)|assumption);obtain ⟨ad1343,e1343,hx1343_0,hx1343_1⟩:=at_T62 (Kd.R_reads' HO_106.out).2.2 x108_3 p1343 q1343;cases e1343
               replace p1343:=eq_true p1343;replace q1343:=eq_true q1343;go_wp2_with (first|((with_reducible refine gate_dst (N:=20) rfl ?_);refine box_event ?hg (N:=20) ?hd (cs:=#[.int .i64 0,.int .i64 0]) (t:=62) ?hr ?_;(case hd=>rfl);(case hg=>rfl);(case hr=>first|(go_simp;done)|(go_simp;rfl));intro gb1344 hg w66 hbox hb;replace HO_5:=A_ (Kd.R_below (Kd.R_elderB (rl_ HO_5) gb1344 (Nat.le_of_eq hg.symm)) hb);replace HO_10:=A_ (Kd.R_below (Kd.R_elderB (rl_ HO_10) gb1344 (Nat.le_of_eq hg.symm)) hb);replace HO_106:=A_ (Kd.R_below (Kd.R_elderB (rl_ HO_106) gb1344 (Nat.le_of_eq hg.symm)) hb);replace HO_1322001:=rb_ HO_1322001 hb;replace HO_1328001:=rb_ HO_1328001 hb;have BK1344:=A_ (hbox);have GW1344:=A_ ((by rw [hg];exact (below_size bb_) : w.heap.size ≤ gb1344));have GE1344:=A_ ((by rw [hg];exact (below_size bb_) : w.heap.size ≤ gb1344));replace HB:=A_ (below_step bb_ hb);have NB1321_1344:=A_ ((by rw [hg];exact Nat.ne_of_lt (blk_lt (bl_ BK1321)) : gb1321 ≠ gb1344));have NB1344_1321:=A_ ((by rw [hg];exact Nat.ne_of_gt (blk_lt (bl_ BK1321)) : gb1344 ≠ gb1321));replace BK1321:=bz BK1321 hb;have NB1327_1344:=A_ ((by rw [hg];exact Nat.ne_of_lt (blk_lt (bl_ BK1327)) : gb1327 ≠ gb1344));have NB1344_1327:=A_ ((by rw [hg];exact Nat.ne_of_gt (blk_lt (bl_ BK1327)) : gb1344 ≠ gb1327));replace BK1327:=bz BK1327 hb;clear hb hbox hg;have hnb67:=NB1344_1321.out;have hnc67:=NB1321_1344.out;have hnb68:=NB1344_1327.out;have hnc68:=NB1327_1344.out;have hcz69_0 : w66.cell? ⟨gb1344,0,none⟩ = some (.int .i64 0):=blk_cell BK1344.out 0;have hcz69_1 : w66.cell? ⟨gb1344,1,none⟩ = some (.int .i64 0):=blk_cell BK1344.out 1;have hfz69_0:=blk_frozen BK1344.out 0;have hfz69_1:=blk_frozen BK1344.out 1))
               repeat (go_quiet (first|((with_reducible refine gate_dst (N:=20) rfl ?_);refine box_event ?hg (N:=20) ?hd (cs:=#[.int .i64 0,.int .i64 0]) (t:=62) ?hr ?_;(case hd=>rfl);(case hg=>rfl);(case hr=>first|(go_simp;done)|(go_simp;rfl));intro gb1344 hg w66 hbox hb;replace HO_5:=A_ (Kd.R_below (Kd.R_elderB (rl_ HO_5) gb1344 (Nat.le_of_eq hg.symm)) hb);replace HO_10:=A_ (Kd.R_below (Kd.R_elderB (rl_ HO_10) gb1344 (Nat.le_of_eq hg.symm)) hb);replace HO_106:=A_ (Kd.R_below (Kd.R_elderB (rl_ HO_106) gb1344 (Nat.le_of_eq hg.symm)) hb);replace HO_1322001:=rb_ HO_1322001 hb;replace HO_1328001:=rb_ HO_1328001 hb;have BK1344:=A_ (hbox);have GW1344:=A_ ((by rw [hg];exact (below_size bb_) : w.heap.size ≤ gb1344));have GE1344:=A_ ((by rw [hg];exact (below_size bb_) : w.heap.size ≤ gb1344));replace HB:=A_ (below_step bb_ hb);have NB1321_1344:=A_ ((by rw [hg];exact Nat.ne_of_lt (blk_lt (bl_ BK1321)) : gb1321 ≠ gb1344));have NB1344_1321:=A_ ((by rw [hg];exact Nat.ne_of_gt (blk_lt (bl_ BK1321)) : gb1344 ≠ gb1321));replace BK1321:=bz BK1321 hb;have NB1327_1344:=A_ ((by rw [hg];exact Nat.ne_of_lt (blk_lt (bl_ BK1327)) : gb1327 ≠ gb1344));have NB1344_1327:=A_ ((by rw [hg];exact Nat.ne_of_gt (blk_lt (bl_ BK1327)) : gb1344 ≠ gb1327));replace BK1327:=bz BK1327 hb;clear hb hbox hg;have hnb67:=NB1344_1321.out;have hnc67:=NB1321_1344.out;have hnb68:=NB1344_1327.out;have hnc68:=NB1327_1344.out;have hcz69_0 : w66.cell? ⟨gb1344,0,none⟩ = some (.int .i64 0):=blk_cell BK1344.out 0;have hcz69_1 : w66.cell? ⟨gb1344,1,none⟩ = some (.int .i64 0):=blk_cell BK1344.out 1;have hfz69_0:=blk_frozen BK1344.out 0;have hfz69_1:=blk_frozen BK1344.out 1));try go_wp2_with (first|((with_reducible refine gate_dst (N:=20) rfl ?_);refine box_event ?hg (N:=20) ?hd (cs:=#[.int .i64 0,.int .i64 0]) (t:=62) ?hr ?_;(case hd=>rfl);(case hg=>rfl);(case hr=>first|(go_simp;done)|(go_simp;rfl));intro gb1344 hg w66 hbox hb;replace HO_5:=A_ (Kd.R_below (Kd.R_elderB (rl_ HO_5) gb1344 (Nat.le_of_eq hg.symm)) hb);replace HO_10:=A_ (Kd.R_below (Kd.R_elderB (rl_ HO_10) gb1344 (Nat.le_of_eq hg.symm)) hb);replace HO_106:=A_ (Kd.R_below (Kd.R_elderB (rl_ HO_106) gb1344 (Nat.le_of_eq hg.symm)) hb);replace HO_1322001:=rb_ HO_1322001 hb;replace HO_1328001:=rb_ HO_1328001 hb;have BK1344:=A_ (hbox);have GW1344:=A_ ((by rw [hg];exact (below_size bb_) : w.heap.size ≤ gb1344));have GE1344:=A_ ((by rw [hg];exact (below_size bb_) : w.heap.size ≤ gb1344));replace HB:=A_ (below_step bb_ hb);have NB1321_1344:=A_ ((by rw [hg];exact Nat.ne_of_lt (blk_lt (bl_ BK1321)) : gb1321 ≠ gb1344));have NB1344_1321:=A_ ((by rw [hg];exact Nat.ne_of_gt (blk_lt (bl_ BK1321)) : gb1344 ≠ gb1321));replace BK1321:=bz BK1321 hb;have NB1327_1344:=A_ ((by rw [hg];exact Nat.ne_of_lt (blk_lt (bl_ BK1327)) : gb1327 ≠ gb1344));have NB1344_1327:=A_ ((by rw [hg];exact Nat.ne_of_gt (blk_lt (bl_ BK1327)) : gb1344 ≠ gb1327));replace BK1327:=bz BK1327 hb;clear hb hbox hg;have hnb67:=NB1344_1321.out;have hnc67:=NB1321_1344.out;have hnb68:=NB1344_1327.out;have hnc68:=NB1327_1344.out;have hcz69_0 : w66.cell? ⟨gb1344,0,none⟩ = some (.int .i64 0):=blk_cell BK1344.out 0;have hcz69_1 : w66.cell? ⟨gb1344,1,none⟩ = some (.int .i64 0):=blk_cell BK1344.out 1;have hfz69_0:=blk_frozen BK1344.out 0;have hfz69_1:=blk_frozen BK1344.out 1)))
               go_roundg k3
               case measure=>have:=HJ7.out;have:=HJ38.out;have:=HK3.out;omega
               case rel=>exact ⟨(x18_3),(wrap64 (x108_3 + 1)),(by first|rfl|(simp;done)|(simp [*];done)),(by first|rfl|(simp;done)|(simp [*];done)),H',⟨by have:=HJ7.out;have:=HJ38.out;have:=HK3.out;omega⟩,⟨by (with_reducible repeat (first|apply Kd.R_alloc|apply Kd.R_drewN|apply Kd.R_drew));exact Kd.R_mono (Kd.R_far (p:=⟨gb1344,1,none⟩) (Kd.R_far (p:=⟨gb1344,0,none⟩) (Kd.R_mono HO_5.out (fun k_ hk=>(⟨hk,hk.2⟩ : _ ∧ k_ ≠ gb1344))) (fun _ hk=>hk.2) (.int .i64 ((rd_T62 t1313 x108_3).f0))) (fun _ hk=>hk.2) (.int .i64 ((rd_T62 t1313 x108_3).f1))) (fun _ hk=>hk.1.1)⟩,⟨by (with_reducible repeat (first|apply Kd.R_alloc|apply Kd.R_drewN|apply Kd.R_drew));exact Kd.R_mono (Kd.R_far (p:=⟨gb1344,1,none⟩) (Kd.R_far (p:=⟨gb1344,0,none⟩) (Kd.R_mono HO_10.out (fun k_ hk=>(⟨hk,hk.2⟩ : _ ∧ k_ ≠ gb1344))) (fun _ hk=>hk.2) (.int .i64 ((rd_T62 t1313 x108_3).f0))) (fun _ hk=>hk.2) (.int .i64 ((rd_T62 t1313 x108_3).f1))) (fun _ hk=>⟨hk.1.1.1,hk.1.1.2⟩)⟩,⟨by (with_reducible repeat (first|apply Kd.R_alloc|apply Kd.R_drewN|apply Kd.R_drew));exact Kd.R_mono (Kd.R_far (p:=⟨gb1344,1,none⟩) (Kd.R_far (p:=⟨gb1344,0,none⟩) (Kd.R_mono HO_106.out (fun k_ hk=>(⟨hk,hk.2⟩ : _ ∧ k_ ≠ gb1344))) (fun _ hk=>hk.2) (.int .i64 ((rd_T62 t1313 x108_3).f0))) (fun _ hk=>hk.2) (.int .i64 ((rd_T62 t1313 x108_3).f1))) (fun _ hk=>hk.1.1)⟩,⟨by (with_reducible repeat (first|apply Kd.R_alloc|apply Kd.R_drewN|apply Kd.R_drew));exact Kd.R_mono (Kd.R_far (p:=⟨gb1344,1,none⟩) (Kd.R_far (p:=⟨gb1344,0,none⟩) (Kd.R_types HO_1322001.out BK1344.out (by decide)) (fun _ hk=>hk.2) (.int .i64 ((rd_T62 t1313 x108_3).f0))) (fun _ hk=>hk.2) (.int .i64 ((rd_T62 t1313 x108_3).f1))) (fun _ hk=>hk.1)⟩,⟨by (with_reducible repeat (first|apply Kd.R_alloc|apply Kd.R_drewN|apply Kd.R_drew));exact Kd.R_mono (Kd.R_far (p:=⟨gb1344,1,none⟩) (Kd.R_far (p:=⟨gb1344,0,none⟩) (Kd.R_types HO_1328001.out BK1344.out (by decide)) (fun _ hk=>hk.2) (.int .i64 ((rd_T62 t1313 x108_3).f0))) (fun _ hk=>hk.2) (.int .i64 ((rd_T62 t1313 x108_3).f1))) (fun _ hk=>hk.1)⟩,⟨by (with_reducible repeat (first|refine blk_drewN ?_ _|refine blk_drew ?_|refine blk_alloc ?_ _));refine blk_far ?_ NB1321_1344.out _;(with_reducible repeat (first|refine blk_drewN ?_ _|refine blk_drew ?_|refine blk_alloc ?_ _));refine blk_far ?_ NB1321_1344.out _;(with_reducible repeat (first|refine blk_drewN ?_ _|refine blk_drew ?_|refine blk_alloc ?_ _));exact BK1321.out⟩,⟨by (with_reducible repeat (first|refine blk_drewN ?_ _|refine blk_drew ?_|refine blk_alloc ?_ _));refine blk_far ?_ NB1327_1344.out _;(with_reducible repeat (first|refine blk_drewN ?_ _|refine blk_drew ?_|refine blk_alloc ?_ _));refine blk_far ?_ NB1327_1344.out _;(with_reducible repeat (first|refine blk_drewN ?_ _|refine blk_drew ?_|refine blk_alloc ?_ _));exact BK1327.out⟩,⟨bb_⟩⟩
             ·rw [if_neg c60] at H;exact absurd H (by simp)
            ·rw [if_neg c59] at H;exact absurd H (by simp)
           ·rw [if_neg c58] at H;have c58b0 : decide (x108_3 < (t1313.length : Int)) = false:=decide_eq_false c58;clear c58;have H':=A_ H;clear H;go_wp2
            repeat (go_quiet (fail);try go_wp2)
            go_loopg [121] k3 (fun kq v121 w'=>∃ (x121_4 : Int),v121 = .int .i64 x121_4 ∧ Aside0 (laws_FnEndsAreLeast.l1 kq t1313 t1330 x18_3 t1330 (t1330.length : Int) x121_4 = some r) ∧ Aside0 (kq ≤ k3) ∧ Aside0 (Kd.R k62 62 w' w.heap.size (fun k_=>some k_ ≠ ((.slice Ao46 t1330.length co46) : Value).ownBlock ∧ some k_ ≠ ((.slice Ao46 t1330.length co46) : Value).ownBlock) (.slice Ao10 t1313.length co10) t1313) ∧ Aside0 (Kd.R k62 62 w' w.heap.size (fun k_=>some k_ ≠ ((.slice Ao10 t1313.length co10) : Value).ownBlock) (.slice Ao46 t1330.length co46) t1330) ∧ Aside0 (Kd.R k62 62 w' w.heap.size (fun k_=>some k_ ≠ ((.slice Ao10 t1313.length co10) : Value).ownBlock) (.slice Ao46 t1330.length co46) t1330) ∧ Aside0 (Kd.R (Kd.int .i64) 3 w' w.heap.size (fun k_=>some k_ ≠ ((.slice Ao19 t1323.length co19) : Value).ownBlock) (.slice Ao14 t1317.length co14) t1317) ∧ Aside0 (Kd.R (Kd.int .i64) 3 w' w.heap.size (fun k_=>some k_ ≠ ((.slice Ao14 t1317.length co14) : Value).ownBlock) (.slice Ao19 t1323.length co19) t1323) ∧ Aside0 (w'.heap[gb1321]? = some (.cells #[.int .i64 t1316,(.slice Ao14 t1317.length co14)] 28 (0,0))) ∧ Aside0 (w'.heap[gb1327]? = some (.cells #[.int .i64 t1322,(.slice Ao19 t1323.length co19)] 28 (0,0))) ∧ Aside0 (Below w.heap.size w w'))
            case atStart=>exact ⟨(0),(by first|rfl|(simp;done)|(simp [*];done)),H',⟨Nat.le_refl _⟩,⟨by (with_reducible repeat (first|apply Kd.R_alloc|apply Kd.R_drewN|apply Kd.R_drew));exact Kd.R_mono HO_5.out (fun _ hk=>⟨hk,hk⟩)⟩,⟨by (with_reducible repeat (first|apply Kd.R_alloc|apply Kd.R_drewN|apply Kd.R_drew));exact Kd.R_mono HO_10.out (fun _ hk=>hk.1)⟩,⟨by (with_reducible repeat (first|apply Kd.R_alloc|apply Kd.R_drewN|apply Kd.R_drew));exact Kd.R_mono HO_10.out (fun _ hk=>hk.1)⟩,⟨by (with_reducible repeat (first|apply Kd.R_alloc|apply Kd.R_drewN|apply Kd.R_drew));exact HO_1322001.out⟩,⟨by (with_reducible repeat (first|apply Kd.R_alloc|apply Kd.R_drewN|apply Kd.R_drew));exact HO_1328001.out⟩,⟨bl_ BK1321⟩,⟨bl_ BK1327⟩,⟨bb_⟩⟩
            case round =>
             clear H';try clear c1
             try clear p1
             try clear q1
             try clear hx1
             try clear c2
             try clear p2
             try clear c3
             try clear c4
             try clear c5
             try clear c6
             try clear p6
             try clear p13
             try clear q13
             try clear hx13
             try clear c17
             try clear c20
             try clear c20b0
             try clear c20b1
             try clear c20b2
             try clear c22
             try clear c24
             try clear c29
             try clear c33
             try clear c34
             try clear c40
             try clear c49
             try clear c50
             try clear c51
             try clear c52
             try clear c53
             try clear c54
             try clear c57
             try clear c58
             try clear c58b0
             try clear c59
             try clear c59b0
             try clear c60
             try clear c60b0
             try clear c61
             try clear c61b0
             try clear c63
             try clear c64
             try clear p64
             try clear c67
             try clear c68
             try clear hcz13_0
             try clear hcz13_1
             try clear hcz18_0
             try clear hcz18_1
             try clear hcz25_0
             try clear hcz25_1
             try clear hcz26_0
             try clear hcz26_1
             try clear hcz30_0
             try clear hcz30_1
             try clear hcz31_0
             try clear hcz31_1
             try clear hcz41_0
             try clear hcz41_1
             try clear hcz43_0
             try clear hcz43_1
             try clear hcz45_0
             try clear hcz45_1
             try clear hcz65_0
             try clear hcz65_1
             try clear hcz69_0
             try clear hcz69_1
             try clear hfz13_0
             try clear hfz13_1
             try clear hfz18_0
             try clear hfz18_1
             try clear hfz25_0
             try clear hfz25_1
             try clear hfz26_0
             try clear hfz26_1
             try clear hfz30_0
             try clear hfz30_1
             try clear hfz31_0
             try clear hfz31_1
             try clear hfz41_0
             try clear hfz41_1
             try clear hfz43_0
             try clear hfz43_1
             try clear hfz45_0
             try clear hfz45_1
             try clear hfz65_0
             try clear hfz65_1
             try clear hfz69_0
             try clear hfz69_1
             try clear hx1343_0
             try clear hx1343_1
             try clear p1343
             try clear p2
             try clear q1343
             obtain ⟨x121_4,rfl,HA,HK4,HO_5,HO_10,HO_119,HO_1322001,HO_1328001,BK1321,BK1327,HB⟩:=hrel;cases gk with
             | zero=>exact absurd HA.out (by simp [laws_FnEndsAreLeast.l1])
             | succ k4 =>
              have H:=HA.out;clear HA;simp only [laws_FnEndsAreLeast.l1] at H
              by_cases c70 : x121_4 < (t1330.length : Int)
              ·rw [if_pos c70] at H;have c70b0 : decide (x121_4 < (t1330.length : Int)) = true:=decide_eq_true c70;clear c70;by_cases c71 : 0 ≤ x121_4
               ·rw [if_pos c71] at H;have c71b0 : decide (0 ≤ x121_4) = true:=decide_eq_true c71;clear c71;by_cases c72 : x121_4 < (t1330.length : Int)
                ·rw [if_pos c72] at H;have c72b0 : decide (x121_4 < (t1330.length : Int)) = true:=decide_eq_true c72;clear c72;by_cases c73 : x121_4 < (t1313.length : Int)
                 ·rw [if_pos c73] at H;have c73b0 : decide (x121_4 < (t1313.length : Int)) = true:=decide_eq_true c73;clear c73;by_cases c74 : ((rd_T62 t1330 x121_4).f0) > (wrap64 (((rd_T62 t1313 x121_4).f0) - x18_3))
                  ·rw [if_pos c74] at H;have c74b0 : decide ((wrap64 (((rd_T62 t1313 x121_4).f0) - x18_3)) < ((rd_T62 t1330 x121_4).f0)) = true:=decide_eq_true c74;clear c74;obtain rfl:=Option.some.inj H;have p1345 : 0 ≤ (x121_4 : Int):=of_decide_eq_true (by first|(with_reducible assumption)|assumption);have q1345 : x121_4 < (t1330.length : Int):=of_decide_eq_true (by first|(with_reducible assumption)|assumption);obtain ⟨ad1345,e1345,hx1345_0,hx1345_1⟩:=at_T62 (Kd.R_reads' HO_119.out).2.2 x121_4 p1345 q1345;cases e1345
                   replace p1345:=eq_true p1345;replace q1345:=eq_true q1345;go_wp2_with (first|((with_reducible refine gate_dst (N:=22) rfl ?_);refine box_event ?hg (N:=22) ?hd (cs:=#[.int .i64 0,.int .i64 0]) (t:=62) ?hr ?_;(case hd=>rfl);(case hg=>rfl);(case hr=>first|(go_simp;done)|(go_simp;rfl));intro gb1346 hg w75 hbox hb;replace HO_5:=A_ (Kd.R_below (Kd.R_elderB (rl_ HO_5) gb1346 (Nat.le_of_eq hg.symm)) hb);replace HO_10:=A_ (Kd.R_below (Kd.R_elderB (rl_ HO_10) gb1346 (Nat.le_of_eq hg.symm)) hb);replace HO_119:=A_ (Kd.R_below (Kd.R_elderB (rl_ HO_119) gb1346 (Nat.le_of_eq hg.symm)) hb);replace HO_1322001:=rb_ HO_1322001 hb;replace HO_1328001:=rb_ HO_1328001 hb;have BK1346:=A_ (hbox);have GW1346:=A_ ((by rw [hg];exact (below_size bb_) : w.heap.size ≤ gb1346));have GE1346:=A_ ((by rw [hg];exact (below_size bb_) : w.heap.size ≤ gb1346));replace HB:=A_ (below_step bb_ hb);have NB1321_1346:=A_ ((by rw [hg];exact Nat.ne_of_lt (blk_lt (bl_ BK1321)) : gb1321 ≠ gb1346));have NB1346_1321:=A_ ((by rw [hg];exact Nat.ne_of_gt (blk_lt (bl_ BK1321)) : gb1346 ≠ gb1321));replace BK1321:=bz BK1321 hb;have NB1327_1346:=A_ ((by rw [hg];exact Nat.ne_of_lt (blk_lt (bl_ BK1327)) : gb1327 ≠ gb1346));have NB1346_1327:=A_ ((by rw [hg];exact Nat.ne_of_gt (blk_lt (bl_ BK1327)) : gb1346 ≠ gb1327));replace BK1327:=bz BK1327 hb;clear hb hbox hg;have hnb76:=NB1346_1321.out;have hnc76:=NB1321_1346.out;have hnb77:=NB1346_1327.out;have hnc77:=NB1327_1346.out;have hcz78_0 : w75.cell? ⟨gb1346,0,none⟩ = some (.int .i64 0):=blk_cell BK1346.out 0;have hcz78_1 : w75.cell? ⟨gb1346,1,none⟩ = some (.int .i64 0):=blk_cell BK1346.out 1;have hfz78_0:=blk_frozen BK1346.out 0;have hfz78_1:=blk_frozen BK1346.out 1;have p1347 : 0 ≤ (x121_4 : Int):=of_decide_eq_true (by first|(with_reducible assumption)|assumption);have q1347 : x121_4 < (t1313.length : Int):=of_decide_eq_true (by first|(with_reducible assumption)|assumption);obtain ⟨ad1347,e1347,hx1347_0,hx1347_1⟩:=at_T62 (Kd.R_reads' HO_5.out).2.2 x121_4 p1347 q1347;cases e1347;have hn1347_0 : ad1347.block ≠ gb1346:=(by first|exact Kd.own_blk (Kd.R_ne HO_5.out BK1346.out (by decide))|exact (HO_5.out.1 _ rfl).2);have hn1347_1 : ad1347.block ≠ gb1346:=(by first|exact Kd.own_blk (Kd.R_ne HO_5.out BK1346.out (by decide))|exact (HO_5.out.1 _ rfl).2);replace hx1347_0:=(cell_far (p:=⟨gb1346,0,none⟩) (by first|(rw [add_block];exact hn1347_0)|(show (Addr.add _ _).block ≠ _;rw [add_block];exact hn1347_0)|exact hn1347_0) (.int .i64 ((rd_T62 t1330 x121_4).f0))).trans hx1347_0;replace hx1347_1:=(cell_far (p:=⟨gb1346,0,none⟩) (by first|(rw [add_block];exact hn1347_0)|(show (Addr.add _ _).block ≠ _;rw [add_block];exact hn1347_0)|exact hn1347_0) (.int .i64 ((rd_T62 t1330 x121_4).f0))).trans hx1347_1;replace hx1347_0:=(cell_far (p:=⟨gb1346,1,none⟩) (by first|(rw [add_block];exact hn1347_1)|(show (Addr.add _ _).block ≠ _;rw [add_block];exact hn1347_1)|exact hn1347_1) (.int .i64 ((rd_T62 t1330 x121_4).f1))).trans hx1347_0;replace hx1347_1:=(cell_far (p:=⟨gb1346,1,none⟩) (by first|(rw [add_block];exact hn1347_1)|(show (Addr.add _ _).block ≠ _;rw [add_block];exact hn1347_1)|exact hn1347_1) (.int .i64 ((rd_T62 t1330 x121_4).f1))).trans hx1347_1;(try have hy1347_0:=fun (n_ : Nat)=>(show ((((w75.drewN n_).setCell ⟨gb1346,0,none⟩ (.int .i64 ((rd_T62 t1330 x121_4).f0))).setCell ⟨gb1346,1,none⟩ (.int .i64 ((rd_T62 t1330 x121_4).f1)))).cell? _ = some _ from hx1347_0));(try have hy1347_1:=fun (n_ : Nat)=>(show ((((w75.drewN n_).setCell ⟨gb1346,0,none⟩ (.int .i64 ((rd_T62 t1330 x121_4).f0))).setCell ⟨gb1346,1,none⟩ (.int .i64 ((rd_T62 t1330 x121_4).f1)))).cell? _ = some _ from hx1347_1));clear hn1347_0;clear hn1347_1;replace p1347:=eq_true p1347;replace q1347:=eq_true q1347))
                   repeat (go_quiet (first|((with_reducible refine gate_dst (N:=22) rfl ?_);refine box_event ?hg (N:=22) ?hd (cs:=#[.int .i64 0,.int .i64 0]) (t:=62) ?hr ?_;(case hd=>rfl);(case hg=>rfl);(case hr=>first|(go_simp;done)|(go_simp;rfl));intro gb1346 hg w75 hbox hb;replace HO_5:=A_ (Kd.R_below (Kd.R_elderB (rl_ HO_5) gb1346 (Nat.le_of_eq hg.symm)) hb);replace HO_10:=A_ (Kd.R_below (Kd.R_elderB (rl_ HO_10) gb1346 (Nat.le_of_eq hg.symm)) hb);replace HO_119:=A_ (Kd.R_below (Kd.R_elderB (rl_ HO_119) gb1346 (Nat.le_of_eq hg.symm)) hb);replace HO_1322001:=rb_ HO_1322001 hb;replace HO_1328001:=rb_ HO_1328001 hb;have BK1346:=A_ (hbox);have GW1346:=A_ ((by rw [hg];exact (below_size bb_) : w.heap.size ≤ gb1346));have GE1346:=A_ ((by rw [hg];exact (below_size bb_) : w.heap.size ≤ gb1346));replace HB:=A_ (below_step bb_ hb);have NB1321_1346:=A_ ((by rw [hg];exact Nat.ne_of_lt (blk_lt (bl_ BK1321)) : gb1321 ≠ gb1346));have NB1346_1321:=A_ ((by rw [hg];exact Nat.ne_of_gt (blk_lt (bl_ BK1321)) : gb1346 ≠ gb1321));replace BK1321:=bz BK1321 hb;have NB1327_1346:=A_ ((by rw [hg];exact Nat.ne_of_lt (blk_lt (bl_ BK1327)) : gb1327 ≠ gb1346));have NB1346_1327:=A_ ((by rw [hg];exact Nat.ne_of_gt (blk_lt (bl_ BK1327)) : gb1346 ≠ gb1327));replace BK1327:=bz BK1327 hb;clear hb hbox hg;have hnb76:=NB1346_1321.out;have hnc76:=NB1321_1346.out;have hnb77:=NB1346_1327.out;have hnc77:=NB1327_1346.out;have hcz78_0 : w75.cell? ⟨gb1346,0,none⟩ = some (.int .i64 0):=blk_cell BK1346.out 0;have hcz78_1 : w75.cell? ⟨gb1346,1,none⟩ = some (.int .i64 0):=blk_cell BK1346.out 1;have hfz78_0:=blk_frozen BK1346.out 0;have hfz78_1:=blk_frozen BK1346.out 1;have p1347 : 0 ≤ (x121_4 : Int):=of_decide_eq_true (by first|(with_reducible assumption)|assumption);have q1347 : x121_4 < (t1313.length : Int):=of_decide_eq_true (by first|(with_reducible assumption)|assumption);obtain ⟨ad1347,e1347,hx1347_0,hx1347_1⟩:=at_T62 (Kd.R_reads' HO_5.out).2.2 x121_4 p1347 q1347;cases e1347;have hn1347_0 : ad1347.block ≠ gb1346:=(by first|exact Kd.own_blk (Kd.R_ne HO_5.out BK1346.out (by decide))|exact (HO_5.out.1 _ rfl).2);have hn1347_1 : ad1347.block ≠ gb1346:=(by first|exact Kd.own_blk (Kd.R_ne HO_5.out BK1346.out (by decide))|exact (HO_5.out.1 _ rfl).2);replace hx1347_0:=(cell_far (p:=⟨gb1346,0,none⟩) (by first|(rw [add_block];exact hn1347_0)|(show (Addr.add _ _).block ≠ _;rw [add_block];exact hn1347_0)|exact hn1347_0) (.int .i64 ((rd_T62 t1330 x121_4).f0))).trans hx1347_0;replace hx1347_1:=(cell_far (p:=⟨gb1346,0,none⟩) (by first|(rw [add_block];exact hn1347_0)|(show (Addr.add _ _).block ≠ _;rw [add_block];exact hn1347_0)|exact hn1347_0) (.int .i64 ((rd_T62 t1330 x121_4).f0))).trans hx1347_1;replace hx1347_0:=(cell_far (p:=⟨gb1346,1,none⟩) (by first|(rw [add_block];exact hn1347_1)|(show (Addr.add _ _).block ≠ _;rw [add_block];exact hn1347_1)|exact hn1347_1) (.int .i64 ((rd_T62 t1330 x121_4).f1))).trans hx1347_0;replace hx1347_1:=(cell_far (p:=⟨gb1346,1,none⟩) (by first|(rw [add_block];exact hn1347_1)|(show (Addr.add _ _).block ≠ _;rw [add_block];exact hn1347_1)|exact hn1347_1) (.int .i64 ((rd_T62 t1330 x121_4).f1))).trans hx1347_1;(try have hy1347_0:=fun (n_ : Nat)=>(show ((((w75.drewN n_).setCell ⟨gb1346,0,none⟩ (.int .i64 ((rd_T62 t1330 x121_4).f0))).setCell ⟨gb1346,1,none⟩ (.int .i64 ((rd_T62 t1330 x121_4).f1)))).cell? _ = some _ from hx1347_0));(try have hy1347_1:=fun (n_ : Nat)=>(show ((((w75.drewN n_).setCell ⟨gb1346,0,none⟩ (.int .i64 ((rd_T62 t1330 x121_4).f0))).setCell ⟨gb1346,1,none⟩ (.int .i64 ((rd_T62 t1330 x121_4).f1)))).cell? _ = some _ from hx1347_1));clear hn1347_0;clear hn1347_1;replace p1347:=eq_true p1347;replace q1347:=eq_true q1347));try go_wp2_with (first|((with_reducible refine gate_dst (N:=22) rfl ?_);refine box_event ?hg (N:=22) ?hd (cs:=#[.int .i64 0,.int .i64 0]) (t:=62) ?hr ?_;(case hd=>rfl);(case hg=>rfl);(case hr=>first|(go_simp;done)|(go_simp;rfl));intro gb1346 hg w75 hbox hb;replace HO_5:=A_ (Kd.R_below (Kd.R_elderB (rl_ HO_5) gb1346 (Nat.le_of_eq hg.symm)) hb);replace HO_10:=A_ (Kd.R_below (Kd.R_elderB (rl_ HO_10) gb1346 (Nat.le_of_eq hg.symm)) hb);replace HO_119:=A_ (Kd.R_below (Kd.R_elderB (rl_ HO_119) gb1346 (Nat.le_of_eq hg.symm)) hb);replace HO_1322001:=rb_ HO_1322001 hb;replace HO_1328001:=rb_ HO_1328001 hb;have BK1346:=A_ (hbox);have GW1346:=A_ ((by rw [hg];exact (below_size bb_) : w.heap.size ≤ gb1346));have GE1346:=A_ ((by rw [hg];exact (below_size bb_) : w.heap.size ≤ gb1346));replace HB:=A_ (below_step bb_ hb);have NB1321_1346:=A_ ((by rw [hg];exact Nat.ne_of_lt (blk_lt (bl_ BK1321)) : gb1321 ≠ gb1346));have NB1346_1321:=A_ ((by rw [hg];exact Nat.ne_of_gt (blk_lt (bl_ BK1321)) : gb1346 ≠ gb1321));replace BK1321:=bz BK1321 hb;have NB1327_1346:=A_ ((by rw [hg];exact Nat.ne_of_lt (blk_lt (bl_ BK1327)) : gb1327 ≠ gb1346));have NB1346_1327:=A_ ((by rw [hg];exact Nat.ne_of_gt (blk_lt (bl_ BK1327)) : gb1346 ≠ gb1327));replace BK1327:=bz BK1327 hb;clear hb hbox hg;have hnb76:=NB1346_1321.out;have hnc76:=NB1321_1346.out;have hnb77:=NB1346_1327.out;have hnc77:=NB1327_1346.out;have hcz78_0 : w75.cell? ⟨gb1346,0,none⟩ = some (.int .i64 0):=blk_cell BK1346.out 0;have hcz78_1 : w75.cell? ⟨gb1346,1,none⟩ = some (.int .i64 0):=blk_cell BK1346.out 1;have hfz78_0:=blk_frozen BK1346.out 0;have hfz78_1:=blk_frozen BK1346.out 1;have p1347 : 0 ≤ (x121_4 : Int):=of_decide_eq_true (by first|(with_reducible assumption)|assumption);have q1347 : x121_4 < (t1313.length : Int):=of_decide_eq_true (by first|(with_reducible assumption)|assumption);obtain ⟨ad1347,e1347,hx1347_0,hx1347_1⟩:=at_T62 (Kd.R_reads' HO_5.out).2.2 x121_4 p1347 q1347;cases e1347;have hn1347_0 : ad1347.block ≠ gb1346:=(by first|exact Kd.own_blk (Kd.R_ne HO_5.out BK1346.out (by decide))|exact (HO_5.out.1 _ rfl).2);have hn1347_1 : ad1347.block ≠ gb1346:=(by first|exact Kd.own_blk (Kd.R_ne HO_5.out BK1346.out (by decide))|exact (HO_5.out.1 _ rfl).2);replace hx1347_0:=(cell_far (p:=⟨gb1346,0,none⟩) (by first|(rw [add_block];exact hn1347_0)|(show (Addr.add _ _).block ≠ _;rw [add_block];exact hn1347_0)|exact hn1347_0) (.int .i64 ((rd_T62 t1330 x121_4).f0))).trans hx1347_0;replace hx1347_1:=(cell_far (p:=⟨gb1346,0,none⟩) (by first|(rw [add_block];exact hn1347_0)|(show (Addr.add _ _).block ≠ _;rw [add_block];exact hn1347_0)|exact hn1347_0) (.int .i64 ((rd_T62 t1330 x121_4).f0))).trans hx1347_1;replace hx1347_0:=(cell_far (p:=⟨gb1346,1,none⟩) (by first|(rw [add_block];exact hn1347_1)|(show (Addr.add _ _).block ≠ _;rw [add_block];exact hn1347_1)|exact hn1347_1) (.int .i64 ((rd_T62 t1330 x121_4).f1))).trans hx1347_0;replace hx1347_1:=(cell_far (p:=⟨gb1346,1,none⟩) (by first|(rw [add_block];exact hn1347_1)|(show (Addr.add _ _).block ≠ _;rw [add_block];exact hn1347_1)|exact hn1347_1) (.int .i64 ((rd_T62 t1330 x121_4).f1))).trans hx1347_1;(try have hy1347_0:=fun (n_ : Nat)=>(show ((((w75.drewN n_).setCell ⟨gb1346,0,none⟩ (.int .i64 ((rd_T62 t1330 x121_4).f0))).setCell ⟨gb1346,1,none⟩ (.int .i64 ((rd_T62 t1330 x121_4).f1)))).cell? _ = some _ from hx1347_0));(try have hy1347_1:=fun (n_ : Nat)=>(show ((((w75.drewN n_).setCell ⟨gb1346,0,none⟩ (.int .i64 ((rd_T62 t1330 x121_4).f0))).setCell ⟨gb1346,1,none⟩ (.int .i64 ((rd_T62 t1330 x121_4).f1)))).cell? _ = some _ from hx1347_1));clear hn1347_0;clear hn1347_1;replace p1347:=eq_true p1347;replace q1347:=eq_true q1347)))
                   go_ret
                   exact ⟨by first|rfl|(simp [errW_none,errW_some] <;> rfl)|(simp [*,errW_none,errW_some] <;> rfl),bb_⟩
                  ·rw [if_neg c74] at H;have c74b0 : decide ((wrap64 (((rd_T62 t1313 x121_4).f0) - x18_3)) < ((rd_T62 t1330 x121_4).f0)) = false:=decide_eq_false c74;clear c74;by_cases c79 : ((rd_T62 t1330 x121_4).f1) > (wrap64 (((rd_T62 t1313 x121_4).f1) - x18_3))
                   ·rw [if_pos c79] at H;have c79b0 : decide ((wrap64 (((rd_T62 t1313 x121_4).f1) - x18_3)) < ((rd_T62 t1330 x121_4).f1)) = true:=decide_eq_true c79;clear c79;obtain rfl:=Option.some.inj H;have p1345 : 0 ≤ (x121_4 : Int):=of_decide_eq_true (by first|(with_reducible assumption)|assumption);have q1345 : x121_4 < (t1330.length : Int):=of_decide_eq_true (by first|(with_reducible assumption)|assumption);obtain ⟨ad1345,e1345,hx1345_0,hx1345_1⟩:=at_T62 (Kd.R_reads' HO_119.out).2.2 x121_4 p1345 q1345;cases e1345
                    replace p1345:=eq_true p1345;replace q1345:=eq_true q1345;go_wp2_with (first|((with_reducible refine gate_dst (N:=22) rfl ?_);refine box_event ?hg (N:=22) ?hd (cs:=#[.int .i64 0,.int .i64 0]) (t:=62) ?hr ?_;(case hd=>rfl);(case hg=>rfl);(case hr=>first|(go_simp;done)|(go_simp;rfl));intro gb1346 hg w80 hbox hb;replace HO_5:=A_ (Kd.R_below (Kd.R_elderB (rl_ HO_5) gb1346 (Nat.le_of_eq hg.symm)) hb);replace HO_10:=A_ (Kd.R_below (Kd.R_elderB (rl_ HO_10) gb1346 (Nat.le_of_eq hg.symm)) hb);replace HO_119:=A_ (Kd.R_below (Kd.R_elderB (rl_ HO_119) gb1346 (Nat.le_of_eq hg.symm)) hb);replace HO_1322001:=rb_ HO_1322001 hb;replace HO_1328001:=rb_ HO_1328001 hb;have BK1346:=A_ (hbox);have GW1346:=A_ ((by rw [hg];exact (below_size bb_) : w.heap.size ≤ gb1346));have GE1346:=A_ ((by rw [hg];exact (below_size bb_) : w.heap.size ≤ gb1346));replace HB:=A_ (below_step bb_ hb);have NB1321_1346:=A_ ((by rw [hg];exact Nat.ne_of_lt (blk_lt (bl_ BK1321)) : gb1321 ≠ gb1346));have NB1346_1321:=A_ ((by rw [hg];exact Nat.ne_of_gt (blk_lt (bl_ BK1321)) : gb1346 ≠ gb1321));replace BK1321:=bz BK1321 hb;have NB1327_1346:=A_ ((by rw [hg];exact Nat.ne_of_lt (blk_lt (bl_ BK1327)) : gb1327 ≠ gb1346));have NB1346_1327:=A_ ((by rw [hg];exact Nat.ne_of_gt (blk_lt (bl_ BK1327)) : gb1346 ≠ gb1327));replace BK1327:=bz BK1327 hb;clear hb hbox hg;have hnb81:=NB1346_1321.out;have hnc81:=NB1321_1346.out;have hnb82:=NB1346_1327.out;have hnc82:=NB1327_1346.out;have hcz83_0 : w80.cell? ⟨gb1346,0,none⟩ = some (.int .i64 0):=blk_cell BK1346.out 0;have hcz83_1 : w80.cell? ⟨gb1346,1,none⟩ = some (.int .i64 0):=blk_cell BK1346.out 1;have hfz83_0:=blk_frozen BK1346.out 0;have hfz83_1:=blk_frozen BK1346.out 1;have p1347 : 0 ≤ (x121_4 : Int):=of_decide_eq_true (by first|(with_reducible assumption)|assumption);have q1347 : x121_4 < (t1313.length : Int):=of_decide_eq_true (by first|(with_reducible assumption)|assumption);obtain ⟨ad1347,e1347,hx1347_0,hx1347_1⟩:=at_T62 (Kd.R_reads' HO_5.out).2.2 x121_4 p1347 q1347;cases e1347;have hn1347_0 : ad1347.block ≠ gb1346:=(by first|exact Kd.own_blk (Kd.R_ne HO_5.out BK1346.out (by decide))|exact (HO_5.out.1 _ rfl).2);have hn1347_1 : ad1347.block ≠ gb1346:=(by first|exact Kd.own_blk (Kd.R_ne HO_5.out BK1346.out (by decide))|exact (HO_5.out.1 _ rfl).2);replace hx1347_0:=(cell_far (p:=⟨gb1346,0,none⟩) (by first|(rw [add_block];exact hn1347_0)|(show (Addr.add _ _).block ≠ _;rw [add_block];exact hn1347_0)|exact hn1347_0) (.int .i64 ((rd_T62 t1330 x121_4).f0))).trans hx1347_0;replace hx1347_1:=(cell_far (p:=⟨gb1346,0,none⟩) (by first|(rw [add_block];exact hn1347_0)|(show (Addr.add _ _).block ≠ _;rw [add_block];exact hn1347_0)|exact hn1347_0) (.int .i64 ((rd_T62 t1330 x121_4).f0))).trans hx1347_1;replace hx1347_0:=(cell_far (p:=⟨gb1346,1,none⟩) (by first|(rw [add_block];exact hn1347_1)|(show (Addr.add _ _).block ≠ _;rw [add_block];exact hn1347_1)|exact hn1347_1) (.int .i64 ((rd_T62 t1330 x121_4).f1))).trans hx1347_0;replace hx1347_1:=(cell_far (p:=⟨gb1346,1,none⟩) (by first|(rw [add_block];exact hn1347_1)|(show (Addr.add _ _).block ≠ _;rw [add_block];exact hn1347_1)|exact hn1347_1) (.int .i64 ((rd_T62 t1330 x121_4).f1))).trans hx1347_1;(try have hy1347_0:=fun (n_ : Nat)=>(show ((((w80.drewN n_).setCell ⟨gb1346,0,none⟩ (.int .i64 ((rd_T62 t1330 x121_4).f0))).setCell ⟨gb1346,1,none⟩ (.int .i64 ((rd_T62 t1330 x121_4).f1)))).cell? _ = some _ from hx1347_0));(try have hy1347_1:=fun (n_ : Nat)=>(show ((((w80.drewN n_).setCell ⟨gb1346,0,none⟩ (.int .i64 ((rd_T62 t1330 x121_4).f0))).setCell ⟨gb1346,1,none⟩ (.int .i64 ((rd_T62 t1330 x121_4).f1)))).cell? _ = some _ from hx1347_1));clear hn1347_0;clear hn1347_1;replace p1347:=eq_true p1347;replace q1347:=eq_true q1347;have p1348 : 0 ≤ (x121_4 : Int):=of_decide_eq_true (by first|(with_reducible assumption)|assumption);have q1348 : x121_4 < (t1313.length : Int):=of_decide_eq_true (by first|(with_reducible assumption)|assumption);obtain ⟨ad1348,e1348,hx1348_0,hx1348_1⟩:=at_T62 (Kd.R_reads' HO_5.out).2.2 x121_4 p1348 q1348;obtain rfl : ad1347 = ad1348:=(by injection e1348);have hn1348_0 : ad1347.block ≠ gb1346:=(by first|exact Kd.own_blk (Kd.R_ne HO_5.out BK1346.out (by decide))|exact (HO_5.out.1 _ rfl).2);have hn1348_1 : ad1347.block ≠ gb1346:=(by first|exact Kd.own_blk (Kd.R_ne HO_5.out BK1346.out (by decide))|exact (HO_5.out.1 _ rfl).2);replace hx1348_0:=(cell_far (p:=⟨gb1346,0,none⟩) (by first|(rw [add_block];exact hn1348_0)|(show (Addr.add _ _).block ≠ _;rw [add_block];exact hn1348_0)|exact hn1348_0) (.int .i64 ((rd_T62 t1330 x121_4).f0))).trans hx1348_0;replace hx1348_1:=(cell_far (p:=⟨gb1346,0,none⟩) (by first|(rw [add_block];exact hn1348_0)|(show (Addr.add _ _).block ≠ _;rw [add_block];exact hn1348_0)|exact hn1348_0) (.int .i64 ((rd_T62 t1330 x121_4).f0))).trans hx1348_1;replace hx1348_0:=(cell_far (p:=⟨gb1346,1,none⟩) (by first|(rw [add_block];exact hn1348_1)|(show (Addr.add _ _).block ≠ _;rw [add_block];exact hn1348_1)|exact hn1348_1) (.int .i64 ((rd_T62 t1330 x121_4).f1))).trans hx1348_0;replace hx1348_1:=(cell_far (p:=⟨gb1346,1,none⟩) (by first|(rw [add_block];exact hn1348_1)|(show (Addr.add _ _).block ≠ _;rw [add_block];exact hn1348_1)|exact hn1348_1) (.int .i64 ((rd_T62 t1330 x121_4).f1))).trans hx1348_1;(try have hy1348_0:=fun (n_ : Nat)=>(show ((((w80.drewN n_).setCell ⟨gb1346,0,none⟩ (.int .i64 ((rd_T62 t1330 x121_4).f0))).setCell ⟨gb1346,1,none⟩ (.int .i64 ((rd_T62 t1330 x121_4).f1)))).cell? _ = some _ from hx1348_0));(try have hy1348_1:=fun (n_ : Nat)=>(show ((((w80.drewN n_).setCell ⟨gb1346,0,none⟩ (.int .i64 ((rd_T62 t1330 x121_4).f0))).setCell ⟨gb1346,1,none⟩ (.int .i64 ((rd_T62 t1330 x121_4).f1)))).cell? _ = some _ from hx1348_1));clear hn1348_0;clear hn1348_1;replace p1348:=eq_true p1348;replace q1348:=eq_true q1348))
                    repeat (go_quiet (first|((with_reducible refine gate_dst (N:=22) rfl ?_);refine box_event ?hg (N:=22) ?hd (cs:=#[.int .i64 0,.int .i64 0]) (t:=62) ?hr ?_;(case hd=>rfl);(case hg=>rfl);(case hr=>first|(go_simp;done)|(go_simp;rfl));intro gb1346 hg w80 hbox hb;replace HO_5:=A_ (Kd.R_below (Kd.R_elderB (rl_ HO_5) gb1346 (Nat.le_of_eq hg.symm)) hb);replace HO_10:=A_ (Kd.R_below (Kd.R_elderB (rl_ HO_10) gb1346 (Nat.le_of_eq hg.symm)) hb);replace HO_119:=A_ (Kd.R_below (Kd.R_elderB (rl_ HO_119) gb1346 (Nat.le_of_eq hg.symm)) hb);replace HO_1322001:=rb_ HO_1322001 hb;replace HO_1328001:=rb_ HO_1328001 hb;have BK1346:=A_ (hbox);have GW1346:=A_ ((by rw [hg];exact (below_size bb_) : w.heap.size ≤ gb1346));have GE1346:=A_ ((by rw [hg];exact (below_size bb_) : w.heap.size ≤ gb1346));replace HB:=A_ (below_step bb_ hb);have NB1321_1346:=A_ ((by rw [hg];exact Nat.ne_of_lt (blk_lt (bl_ BK1321)) : gb1321 ≠ gb1346));have NB1346_1321:=A_ ((by rw [hg];exact Nat.ne_of_gt (blk_lt (bl_ BK1321)) : gb1346 ≠ gb1321));replace BK1321:=bz BK1321 hb;have NB1327_1346:=A_ ((by rw [hg];exact Nat.ne_of_lt (blk_lt (bl_ BK1327)) : gb1327 ≠ gb1346));have NB1346_1327:=A_ ((by rw [hg];exact Nat.ne_of_gt (blk_lt (bl_ BK1327)) : gb1346 ≠ gb1327));replace BK1327:=bz BK1327 hb;clear hb hbox hg;have hnb81:=NB1346_1321.out;have hnc81:=NB1321_1346.out;have hnb82:=NB1346_1327.out;have hnc82:=NB1327_1346.out;have hcz83_0 : w80.cell? ⟨gb1346,0,none⟩ = some (.int .i64 0):=blk_cell BK1346.out 0;have hcz83_1 : w80.cell? ⟨gb1346,1,none⟩ = some (.int .i64 0):=blk_cell BK1346.out 1;have hfz83_0:=blk_frozen BK1346.out 0;have hfz83_1:=blk_frozen BK1346.out 1;have p1347 : 0 ≤ (x121_4 : Int):=of_decide_eq_true (by first|(with_reducible assumption)|assumption);have q1347 : x121_4 < (t1313.length : Int):=of_decide_eq_true (by first|(with_reducible assumption)|assumption);obtain ⟨ad1347,e1347,hx1347_0,hx1347_1⟩:=at_T62 (Kd.R_reads' HO_5.out).2.2 x121_4 p1347 q1347;cases e1347;have hn1347_0 : ad1347.block ≠ gb1346:=(by first|exact Kd.own_blk (Kd.R_ne HO_5.out BK1346.out (by decide))|exact (HO_5.out.1 _ rfl).2);have hn1347_1 : ad1347.block ≠ gb1346:=(by first|exact Kd.own_blk (Kd.R_ne HO_5.out BK1346.out (by decide))|exact (HO_5.out.1 _ rfl).2);replace hx1347_0:=(cell_far (p:=⟨gb1346,0,none⟩) (by first|(rw [add_block];exact hn1347_0)|(show (Addr.add _ _).block ≠ _;rw [add_block];exact hn1347_0)|exact hn1347_0) (.int .i64 ((rd_T62 t1330 x121_4).f0))).trans hx1347_0;replace hx1347_1:=(cell_far (p:=⟨gb1346,0,none⟩) (by first|(rw [add_block];exact hn1347_0)|(show (Addr.add _ _).block ≠ _;rw [add_block];exact hn1347_0)|exact hn1347_0) (.int .i64 ((rd_T62 t1330 x121_4).f0))).trans hx1347_1;replace hx1347_0:=(cell_far (p:=⟨gb1346,1,none⟩) (by first|(rw [add_block];exact hn1347_1)|(show (Addr.add _ _).block ≠ _;rw [add_block];exact hn1347_1)|exact hn1347_1) (.int .i64 ((rd_T62 t1330 x121_4).f1))).trans hx1347_0;replace hx1347_1:=(cell_far (p:=⟨gb1346,1,none⟩) (by first|(rw [add_block];exact hn1347_1)|(show (Addr.add _ _).block ≠ _;rw [add_block];exact hn1347_1)|exact hn1347_1) (.int .i64 ((rd_T62 t1330 x121_4).f1))).trans hx1347_1;(try have hy1347_0:=fun (n_ : Nat)=>(show ((((w80.drewN n_).setCell ⟨gb1346,0,none⟩ (.int .i64 ((rd_T62 t1330 x121_4).f0))).setCell ⟨gb1346,1,none⟩ (.int .i64 ((rd_T62 t1330 x121_4).f1)))).cell? _ = some _ from hx1347_0));(try have hy1347_1:=fun (n_ : Nat)=>(show ((((w80.drewN n_).setCell ⟨gb1346,0,none⟩ (.int .i64 ((rd_T62 t1330 x121_4).f0))).setCell ⟨gb1346,1,none⟩ (.int .i64 ((rd_T62 t1330 x121_4).f1)))).cell? _ = some _ from hx1347_1));clear hn1347_0;clear hn1347_1;replace p1347:=eq_true p1347;replace q1347:=eq_true q1347;have p1348 : 0 ≤ (x121_4 : Int):=of_decide_eq_true (by first|(with_reducible assumption)|assumption);have q1348 : x121_4 < (t1313.length : Int):=of_decide_eq_true (by first|(with_reducible assumption)|assumption);obtain ⟨ad1348,e1348,hx1348_0,hx1348_1⟩:=at_T62 (Kd.R_reads' HO_5.out).2.2 x121_4 p1348 q1348;obtain rfl : ad1347 = ad1348:=(by injection e1348);have hn1348_0 : ad1347.block ≠ gb1346:=(by first|exact Kd.own_blk (Kd.R_ne HO_5.out BK1346.out (by decide))|exact (HO_5.out.1 _ rfl).2);have hn1348_1 : ad1347.block ≠ gb1346:=(by first|exact Kd.own_blk (Kd.R_ne HO_5.out BK1346.out (by decide))|exact (HO_5.out.1 _ rfl).2);replace hx1348_0:=(cell_far (p:=⟨gb1346,0,none⟩) (by first|(rw [add_block];exact hn1348_0)|(show (Addr.add _ _).block ≠ _;rw [add_block];exact hn1348_0)|exact hn1348_0) (.int .i64 ((rd_T62 t1330 x121_4).f0))).trans hx1348_0;replace hx1348_1:=(cell_far (p:=⟨gb1346,0,none⟩) (by first|(rw [add_block];exact hn1348_0)|(show (Addr.add _ _).block ≠ _;rw [add_block];exact hn1348_0)|exact hn1348_0) (.int .i64 ((rd_T62 t1330 x121_4).f0))).trans hx1348_1;replace hx1348_0:=(cell_far (p:=⟨gb1346,1,none⟩) (by first|(rw [add_block];exact hn1348_1)|(show (Addr.add _ _).block ≠ _;rw [add_block];exact hn1348_1)|exact hn1348_1) (.int .i64 ((rd_T62 t1330 x121_4).f1))).trans hx1348_0;replace hx1348_1:=(cell_far (p:=⟨gb1346,1,none⟩) (by first|(rw [add_block];exact hn1348_1)|(show (Addr.add _ _).block ≠ _;rw [add_block];exact hn1348_1)|exact hn1348_1) (.int .i64 ((rd_T62 t1330 x121_4).f1))).trans hx1348_1;(try have hy1348_0:=fun (n_ : Nat)=>(show ((((w80.drewN n_).setCell ⟨gb1346,0,none⟩ (.int .i64 ((rd_T62 t1330 x121_4).f0))).setCell ⟨gb1346,1,none⟩ (.int .i64 ((rd_T62 t1330 x121_4).f1)))).cell? _ = some _ from hx1348_0));(try have hy1348_1:=fun (n_ : Nat)=>(show ((((w80.drewN n_).setCell ⟨gb1346,0,none⟩ (.int .i64 ((rd_T62 t1330 x121_4).f0))).setCell ⟨gb1346,1,none⟩ (.int .i64 ((rd_T62 t1330 x121_4).f1)))).cell? _ = some _ from hx1348_1));clear hn1348_0;clear hn1348_1;replace p1348:=eq_true p1348;replace q1348:=eq_true q1348));try go_wp2_with (first|((with_reducible refine gate_dst (N:=22) rfl ?_);refine box_event ?hg (N:=22) ?hd (cs:=#[.int .i64 0,.int .i64 0]) (t:=62) ?hr ?_;(case hd=>rfl);(case hg=>rfl);(case hr=>first|(go_simp;done)|(go_simp;rfl));intro gb1346 hg w80 hbox hb;replace HO_5:=A_ (Kd.R_below (Kd.R_elderB (rl_ HO_5) gb1346 (Nat.le_of_eq hg.symm)) hb);replace HO_10:=A_ (Kd.R_below (Kd.R_elderB (rl_ HO_10) gb1346 (Nat.le_of_eq hg.symm)) hb);replace HO_119:=A_ (Kd.R_below (Kd.R_elderB (rl_ HO_119) gb1346 (Nat.le_of_eq hg.symm)) hb);replace HO_1322001:=rb_ HO_1322001 hb;replace HO_1328001:=rb_ HO_1328001 hb;have BK1346:=A_ (hbox);have GW1346:=A_ ((by rw [hg];exact (below_size bb_) : w.heap.size ≤ gb1346));have GE1346:=A_ ((by rw [hg];exact (below_size bb_) : w.heap.size ≤ gb1346));replace HB:=A_ (below_step bb_ hb);have NB1321_1346:=A_ ((by rw [hg];exact Nat.ne_of_lt (blk_lt (bl_ BK1321)) : gb1321 ≠ gb1346));have NB1346_1321:=A_ ((by rw [hg];exact Nat.ne_of_gt (blk_lt (bl_ BK1321)) : gb1346 ≠ gb1321));replace BK1321:=bz BK1321 hb;have NB1327_1346:=A_ ((by rw [hg];exact Nat.ne_of_lt (blk_lt (bl_ BK1327)) : gb1327 ≠ gb1346));have NB1346_1327:=A_ ((by rw [hg];exact Nat.ne_of_gt (blk_lt (bl_ BK1327)) : gb1346 ≠ gb1327));replace BK1327:=bz BK1327 hb;clear hb hbox hg;have hnb81:=NB1346_1321.out;have hnc81:=NB1321_1346.out;have hnb82:=NB1346_1327.out;have hnc82:=NB1327_1346.out;have hcz83_0 : w80.cell? ⟨gb1346,0,none⟩ = some (.int .i64 0):=blk_cell BK1346.out 0;have hcz83_1 : w80.cell? ⟨gb1346,1,none⟩ = some (.int .i64 0):=blk_cell BK1346.out 1;have hfz83_0:=blk_frozen BK1346.out 0;have hfz83_1:=blk_frozen BK1346.out 1;have p1347 : 0 ≤ (x121_4 : Int):=of_decide_eq_true (by first|(with_reducible assumption)|assumption);have q1347 : x121_4 < (t1313.length : Int):=of_decide_eq_true (by first|(with_reducible assumption)|assumption);obtain ⟨ad1347,e1347,hx1347_0,hx1347_1⟩:=at_T62 (Kd.R_reads' HO_5.out).2.2 x121_4 p1347 q1347;cases e1347;have hn1347_0 : ad1347.block ≠ gb1346:=(by first|exact Kd.own_blk (Kd.R_ne HO_5.out BK1346.out (by decide))|exact (HO_5.out.1 _ rfl).2);have hn1347_1 : ad1347.block ≠ gb1346:=(by first|exact Kd.own_blk (Kd.R_ne HO_5.out BK1346.out (by decide))|exact (HO_5.out.1 _ rfl).2);replace hx1347_0:=(cell_far (p:=⟨gb1346,0,none⟩) (by first|(rw [add_block];exact hn1347_0)|(show (Addr.add _ _).block ≠ _;rw [add_block];exact hn1347_0)|exact hn1347_0) (.int .i64 ((rd_T62 t1330 x121_4).f0))).trans hx1347_0;replace hx1347_1:=(cell_far (p:=⟨gb1346,0,none⟩) (by first|(rw [add_block];exact hn1347_0)|(show (Addr.add _ _).block ≠ _;rw [add_block];exact hn1347_0)|exact hn1347_0) (.int .i64 ((rd_T62 t1330 x121_4).f0))).trans hx1347_1;replace hx1347_0:=(cell_far (p:=⟨gb1346,1,none⟩) (by first|(rw [add_block];exact hn1347_1)|(show (Addr.add _ _).block ≠ _;rw [add_block];exact hn1347_1)|exact hn1347_1) (.int .i64 ((rd_T62 t1330 x121_4).f1))).trans hx1347_0;replace hx1347_1:=(cell_far (p:=⟨gb1346,1,none⟩) (by first|(rw [add_block];exact hn1347_1)|(show (Addr.add _ _).block ≠ _;rw [add_block];exact hn1347_1)|exact hn1347_1) (.int .i64 ((rd_T62 t1330 x121_4).f1))).trans hx1347_1;(try have hy1347_0:=fun (n_ : Nat)=>(show ((((w80.drewN n_).setCell ⟨gb1346,0,none⟩ (.int .i64 ((rd_T62 t1330 x121_4).f0))).setCell ⟨gb1346,1,none⟩ (.int .i64 ((rd_T62 t1330 x121_4).f1)))).cell? _ = some _ from hx1347_0));(try have hy1347_1:=fun (n_ : Nat)=>(show ((((w80.drewN n_).setCell ⟨gb1346,0,none⟩ (.int .i64 ((rd_T62 t1330 x121_4).f0))).setCell ⟨gb1346,1,none⟩ (.int .i64 ((rd_T62 t1330 x121_4).f1)))).cell? _ = some _ from hx1347_1));clear hn1347_0;clear hn1347_1;replace p1347:=eq_true p1347;replace q1347:=eq_true q1347;have p1348 : 0 ≤ (x121_4 : Int):=of_decide_eq_true (by first|(with_reducible assumption)|assumption);have q1348 : x121_4 < (t1313.length : Int):=of_decide_eq_true (by first|(with_reducible assumption)|assumption);obtain ⟨ad1348,e1348,hx1348_0,hx1348_1⟩:=at_T62 (Kd.R_reads' HO_5.out).2.2 x121_4 p1348 q1348;obtain rfl : ad1347 = ad1348:=(by injection e1348);have hn1348_0 : ad1347.block ≠ gb1346:=(by first|exact Kd.own_blk (Kd.R_ne HO_5.out BK1346.out (by decide))|exact (HO_5.out.1 _ rfl).2);have hn1348_1 : ad1347.block ≠ gb1346:=(by first|exact Kd.own_blk (Kd.R_ne HO_5.out BK1346.out (by decide))|exact (HO_5.out.1 _ rfl).2);replace hx1348_0:=(cell_far (p:=⟨gb1346,0,none⟩) (by first|(rw [add_block];exact hn1348_0)|(show (Addr.add _ _).block ≠ _;rw [add_block];exact hn1348_0)|exact hn1348_0) (.int .i64 ((rd_T62 t1330 x121_4).f0))).trans hx1348_0;replace hx1348_1:=(cell_far (p:=⟨gb1346,0,none⟩) (by first|(rw [add_block];exact hn1348_0)|(show (Addr.add _ _).block ≠ _;rw [add_block];exact hn1348_0)|exact hn1348_0) (.int .i64 ((rd_T62 t1330 x121_4).f0))).trans hx1348_1;replace hx1348_0:=(cell_far (p:=⟨gb1346,1,none⟩) (by first|(rw [add_block];exact hn1348_1)|(show (Addr.add _ _).block ≠ _;rw [add_block];exact hn1348_1)|exact hn1348_1) (.int .i64 ((rd_T62 t1330 x121_4).f1))).trans hx1348_0;replace hx1348_1:=(cell_far (p:=⟨gb1346,1,none⟩) (by first|(rw [add_block];exact hn1348_1)|(show (Addr.add _ _).block ≠ _;rw [add_block];exact hn1348_1)|exact hn1348_1) (.int .i64 ((rd_T62 t1330 x121_4).f1))).trans hx1348_1;(try have hy1348_0:=fun (n_ : Nat)=>(show ((((w80.drewN n_).setCell ⟨gb1346,0,none⟩ (.int .i64 ((rd_T62 t1330 x121_4).f0))).setCell ⟨gb1346,1,none⟩ (.int .i64 ((rd_T62 t1330 x121_4).f1)))).cell? _ = some _ from hx1348_0));(try have hy1348_1:=fun (n_ : Nat)=>(show ((((w80.drewN n_).setCell ⟨gb1346,0,none⟩ (.int .i64 ((rd_T62 t1330 x121_4).f0))).setCell ⟨gb1346,1,none⟩ (.int .i64 ((rd_T62 t1330 x121_4).f1)))).cell? _ = some _ from hx1348_1));clear hn1348_0;clear hn1348_1;replace p1348:=eq_true p1348;replace q1348:=eq_true q1348)))
                    go_ret
                    exact ⟨by first|rfl|(simp [errW_none,errW_some] <;> rfl)|(simp [*,errW_none,errW_some] <;> rfl),bb_⟩
                   ·rw [if_neg c79] at H;have c79b0 : decide ((wrap64 (((rd_T62 t1313 x121_4).f1) - x18_3)) < ((rd_T62 t1330 x121_4).f1)) = false:=decide_eq_false c79;clear c79;have H':=A_ H;clear H;have p1345 : 0 ≤ (x121_4 : Int):=of_decide_eq_true (by first|(with_reducible assumption)|assumption);have q1345 : x121_4 < (t1330.length : Int):=of_decide_eq_true (by first|(with_reducible assumption)|assumption);obtain ⟨ad1345,e1345,hx1345_0,hx1345_1⟩:=at_T62 (Kd.R_reads' HO_119.out).2.2 x121_4 p1345 q1345;cases e1345
                    replace p1345:=eq_true p1345;replace q1345:=eq_true q1345;go_wp2_with (first|((with_reducible refine gate_dst (N:=22) rfl ?_);refine box_event ?hg (N:=22) ?hd (cs:=#[.int .i64 0,.int .i64 0]) (t:=62) ?hr ?_;(case hd=>rfl);(case hg=>rfl);(case hr=>first|(go_simp;done)|(go_simp;rfl));intro gb1346 hg w84 hbox hb;replace HO_5:=A_ (Kd.R_below (Kd.R_elderB (rl_ HO_5) gb1346 (Nat.le_of_eq hg.symm)) hb);replace HO_10:=A_ (Kd.R_below (Kd.R_elderB (rl_ HO_10) gb1346 (Nat.le_of_eq hg.symm)) hb);replace HO_119:=A_ (Kd.R_below (Kd.R_elderB (rl_ HO_119) gb1346 (Nat.le_of_eq hg.symm)) hb);replace HO_1322001:=rb_ HO_1322001 hb;replace HO_1328001:=rb_ HO_1328001 hb;have BK1346:=A_ (hbox);have GW1346:=A_ ((by rw [hg];exact (below_size bb_) : w.heap.size ≤ gb1346));have GE1346:=A_ ((by rw [hg];exact (below_size bb_) : w.heap.size ≤ gb1346));replace HB:=A_ (below_step bb_ hb);have NB1321_1346:=A_ ((by rw [hg];exact Nat.ne_of_lt (blk_lt (bl_ BK1321)) : gb1321 ≠ gb1346));have NB1346_1321:=A_ ((by rw [hg];exact Nat.ne_of_gt (blk_lt (bl_ BK1321)) : gb1346 ≠ gb1321));replace BK1321:=bz BK1321 hb;have NB1327_1346:=A_ ((by rw [hg];exact Nat.ne_of_lt (blk_lt (bl_ BK1327)) : gb1327 ≠ gb1346));have NB1346_1327:=A_ ((by rw [hg];exact Nat.ne_of_gt (blk_lt (bl_ BK1327)) : gb1346 ≠ gb1327));replace BK1327:=bz BK1327 hb;clear hb hbox hg;have hnb85:=NB1346_1321.out;have hnc85:=NB1321_1346.out;have hnb86:=NB1346_1327.out;have hnc86:=NB1327_1346.out;have hcz87_0 : w84.cell? ⟨gb1346,0,none⟩ = some (.int .i64 0):=blk_cell BK1346.out 0;have hcz87_1 : w84.cell? ⟨gb1346,1,none⟩ = some (.int .i64 0):=blk_cell BK1346.out 1;have hfz87_0:=blk_frozen BK1346.out 0;have hfz87_1:=blk_frozen BK1346.out 1;have p1347 : 0 ≤ (x121_4 : Int):=of_decide_eq_true (by first|(with_reducible assumption)|assumption);have q1347 : x121_4 < (t1313.length : Int):=of_decide_eq_true (by first|(with_reducible assumption)|assumption);obtain ⟨ad1347,e1347,hx1347_0,hx1347_1⟩:=at_T62 (Kd.R_reads' HO_5.out).2.2 x121_4 p1347 q1347;cases e1347;have hn1347_0 : ad1347.block ≠ gb1346:=(by first|exact Kd.own_blk (Kd.R_ne HO_5.out BK1346.out (by decide))|exact (HO_5.out.1 _ rfl).2);have hn1347_1 : ad1347.block ≠ gb1346:=(by first|exact Kd.own_blk (Kd.R_ne HO_5.out BK1346.out (by decide))|exact (HO_5.out.1 _ rfl).2);replace hx1347_0:=(cell_far (p:=⟨gb1346,0,none⟩) (by first|(rw [add_block];exact hn1347_0)|(show (Addr.add _ _).block ≠ _;rw [add_block];exact hn1347_0)|exact hn1347_0) (.int .i64 ((rd_T62 t1330 x121_4).f0))).trans hx1347_0;replace hx1347_1:=(cell_far (p:=⟨gb1346,0,none⟩) (by first|(rw [add_block];exact hn1347_0)|(show (Addr.add _ _).block ≠ _;rw [add_block];exact hn1347_0)|exact hn1347_0) (.int .i64 ((rd_T62 t1330 x121_4).f0))).trans hx1347_1;replace hx1347_0:=(cell_far (p:=⟨gb1346,1,none⟩) (by first|(rw [add_block];exact hn1347_1)|(show (Addr.add _ _).block ≠ _;rw [add_block];exact hn1347_1)|exact hn1347_1) (.int .i64 ((rd_T62 t1330 x121_4).f1))).trans hx1347_0;replace hx1347_1:=(cell_far (p:=⟨gb1346,1,none⟩) (by first|(rw [add_block];exact hn1347_1)|(show (Addr.add _ _).block ≠ _;rw [add_block];exact hn1347_1)|exact hn1347_1) (.int .i64 ((rd_T62 t1330 x121_4).f1))).trans hx1347_1;(try have hy1347_0:=fun (n_ : Nat)=>(show ((((w84.drewN n_).setCell ⟨gb1346,0,none⟩ (.int .i64 ((rd_T62 t1330 x121_4).f0))).setCell ⟨gb1346,1,none⟩ (.int .i64 ((rd_T62 t1330 x121_4).f1)))).cell? _ = some _ from hx1347_0));(try have hy1347_1:=fun (n_ : Nat)=>(show ((((w84.drewN n_).setCell ⟨gb1346,0,none⟩ (.int .i64 ((rd_T62 t1330 x121_4).f0))).setCell ⟨gb1346,1,none⟩ (.int .i64 ((rd_T62 t1330 x121_4).f1)))).cell? _ = some _ from hx1347_1));clear hn1347_0;clear hn1347_1;replace p1347:=eq_true p1347;replace q1347:=eq_true q1347;have p1348 : 0 ≤ (x121_4 : Int):=of_decide_eq_true (by first|(with_reducible assumption)|assumption);have q1348 : x121_4 < (t1313.length : Int):=of_decide_eq_true (by first|(with_reducible assumption)|assumption);obtain ⟨ad1348,e1348,hx1348_0,hx1348_1⟩:=at_T62 (Kd.R_reads' HO_5.out).2.2 x121_4 p1348 q1348;obtain rfl : ad1347 = ad1348:=(by injection e1348);have hn1348_0 : ad1347.block ≠ gb1346:=(by first|exact Kd.own_blk (Kd.R_ne HO_5.out BK1346.out (by decide))|exact (HO_5.out.1 _ rfl).2);have hn1348_1 : ad1347.block ≠ gb1346:=(by first|exact Kd.own_blk (Kd.R_ne HO_5.out BK1346.out (by decide))|exact (HO_5.out.1 _ rfl).2);replace hx1348_0:=(cell_far (p:=⟨gb1346,0,none⟩) (by first|(rw [add_block];exact hn1348_0)|(show (Addr.add _ _).block ≠ _;rw [add_block];exact hn1348_0)|exact hn1348_0) (.int .i64 ((rd_T62 t1330 x121_4).f0))).trans hx1348_0;replace hx1348_1:=(cell_far (p:=⟨gb1346,0,none⟩) (by first|(rw [add_block];exact hn1348_0)|(show (Addr.add _ _).block ≠ _;rw [add_block];exact hn1348_0)|exact hn1348_0) (.int .i64 ((rd_T62 t1330 x121_4).f0))).trans hx1348_1;replace hx1348_0:=(cell_far (p:=⟨gb1346,1,none⟩) (by first|(rw [add_block];exact hn1348_1)|(show (Addr.add _ _).block ≠ _;rw [add_block];exact hn1348_1)|exact hn1348_1) (.int .i64 ((rd_T62 t1330 x121_4).f1))).trans hx1348_0;replace hx1348_1:=(cell_far (p:=⟨gb1346,1,none⟩) (by first|(rw [add_block];exact hn1348_1)|(show (Addr.add _ _).block ≠ _;rw [add_block];exact hn1348_1)|exact hn1348_1) (.int .i64 ((rd_T62 t1330 x121_4).f1))).trans hx1348_1;(try have hy1348_0:=fun (n_ : Nat)=>(show ((((w84.drewN n_).setCell ⟨gb1346,0,none⟩ (.int .i64 ((rd_T62 t1330 x121_4).f0))).setCell ⟨gb1346,1,none⟩ (.int .i64 ((rd_T62 t1330 x121_4).f1)))).cell? _ = some _ from hx1348_0));(try have hy1348_1:=fun (n_ : Nat)=>(show ((((w84.drewN n_).setCell ⟨gb1346,0,none⟩ (.int .i64 ((rd_T62 t1330 x121_4).f0))).setCell ⟨gb1346,1,none⟩ (.int .i64 ((rd_T62 t1330 x121_4).f1)))).cell? _ = some _ from hx1348_1));clear hn1348_0;clear hn1348_1;replace p1348:=eq_true p1348;replace q1348:=eq_true q1348))
                    repeat (go_quiet (first|((with_reducible refine gate_dst (N:=22) rfl ?_);refine box_event ?hg (N:=22) ?hd (cs:=#[.int .i64 0,.int .i64 0]) (t:=62) ?hr ?_;(case hd=>rfl);(case hg=>rfl);(case hr=>first|(go_simp;done)|(go_simp;rfl));intro gb1346 hg w84 hbox hb;replace HO_5:=A_ (Kd.R_below (Kd.R_elderB (rl_ HO_5) gb1346 (Nat.le_of_eq hg.symm)) hb);replace HO_10:=A_ (Kd.R_below (Kd.R_elderB (rl_ HO_10) gb1346 (Nat.le_of_eq hg.symm)) hb);replace HO_119:=A_ (Kd.R_below (Kd.R_elderB (rl_ HO_119) gb1346 (Nat.le_of_eq hg.symm)) hb);replace HO_1322001:=rb_ HO_1322001 hb;replace HO_1328001:=rb_ HO_1328001 hb;have BK1346:=A_ (hbox);have GW1346:=A_ ((by rw [hg];exact (below_size bb_) : w.heap.size ≤ gb1346));have GE1346:=A_ ((by rw [hg];exact (below_size bb_) : w.heap.size ≤ gb1346));replace HB:=A_ (below_step bb_ hb);have NB1321_1346:=A_ ((by rw [hg];exact Nat.ne_of_lt (blk_lt (bl_ BK1321)) : gb1321 ≠ gb1346));have NB1346_1321:=A_ ((by rw [hg];exact Nat.ne_of_gt (blk_lt (bl_ BK1321)) : gb1346 ≠ gb1321));replace BK1321:=bz BK1321 hb;have NB1327_1346:=A_ ((by rw [hg];exact Nat.ne_of_lt (blk_lt (bl_ BK1327)) : gb1327 ≠ gb1346));have NB1346_1327:=A_ ((by rw [hg];exact Nat.ne_of_gt (blk_lt (bl_ BK1327)) : gb1346 ≠ gb1327));replace BK1327:=bz BK1327 hb;clear hb hbox hg;have hnb85:=NB1346_1321.out;have hnc85:=NB1321_1346.out;have hnb86:=NB1346_1327.out;have hnc86:=NB1327_1346.out;have hcz87_0 : w84.cell? ⟨gb1346,0,none⟩ = some (.int .i64 0):=blk_cell BK1346.out 0;have hcz87_1 : w84.cell? ⟨gb1346,1,none⟩ = some (.int .i64 0):=blk_cell BK1346.out 1;have hfz87_0:=blk_frozen BK1346.out 0;have hfz87_1:=blk_frozen BK1346.out 1;have p1347 : 0 ≤ (x121_4 : Int):=of_decide_eq_true (by first|(with_reducible assumption)|assumption);have q1347 : x121_4 < (t1313.length : Int):=of_decide_eq_true (by first|(with_reducible assumption)|assumption);obtain ⟨ad1347,e1347,hx1347_0,hx1347_1⟩:=at_T62 (Kd.R_reads' HO_5.out).2.2 x121_4 p1347 q1347;cases e1347;have hn1347_0 : ad1347.block ≠ gb1346:=(by first|exact Kd.own_blk (Kd.R_ne HO_5.out BK1346.out (by decide))|exact (HO_5.out.1 _ rfl).2);have hn1347_1 : ad1347.block ≠ gb1346:=(by first|exact Kd.own_blk (Kd.R_ne HO_5.out BK1346.out (by decide))|exact (HO_5.out.1 _ rfl).2);replace hx1347_0:=(cell_far (p:=⟨gb1346,0,none⟩) (by first|(rw [add_block];exact hn1347_0)|(show (Addr.add _ _).block ≠ _;rw [add_block];exact hn1347_0)|exact hn1347_0) (.int .i64 ((rd_T62 t1330 x121_4).f0))).trans hx1347_0;replace hx1347_1:=(cell_far (p:=⟨gb1346,0,none⟩) (by first|(rw [add_block];exact hn1347_0)|(show (Addr.add _ _).block ≠ _;rw [add_block];exact hn1347_0)|exact hn1347_0) (.int .i64 ((rd_T62 t1330 x121_4).f0))).trans hx1347_1;replace hx1347_0:=(cell_far (p:=⟨gb1346,1,none⟩) (by first|(rw [add_block];exact hn1347_1)|(show (Addr.add _ _).block ≠ _;rw [add_block];exact hn1347_1)|exact hn1347_1) (.int .i64 ((rd_T62 t1330 x121_4).f1))).trans hx1347_0;replace hx1347_1:=(cell_far (p:=⟨gb1346,1,none⟩) (by first|(rw [add_block];exact hn1347_1)|(show (Addr.add _ _).block ≠ _;rw [add_block];exact hn1347_1)|exact hn1347_1) (.int .i64 ((rd_T62 t1330 x121_4).f1))).trans hx1347_1;(try have hy1347_0:=fun (n_ : Nat)=>(show ((((w84.drewN n_).setCell ⟨gb1346,0,none⟩ (.int .i64 ((rd_T62 t1330 x121_4).f0))).setCell ⟨gb1346,1,none⟩ (.int .i64 ((rd_T62 t1330 x121_4).f1)))).cell? _ = some _ from hx1347_0));(try have hy1347_1:=fun (n_ : Nat)=>(show ((((w84.drewN n_).setCell ⟨gb1346,0,none⟩ (.int .i64 ((rd_T62 t1330 x121_4).f0))).setCell ⟨gb1346,1,none⟩ (.int .i64 ((rd_T62 t1330 x121_4).f1)))).cell? _ = some _ from hx1347_1));clear hn1347_0;clear hn1347_1;replace p1347:=eq_true p1347;replace q1347:=eq_true q1347;have p1348 : 0 ≤ (x121_4 : Int):=of_decide_eq_true (by first|(with_reducible assumption)|assumption);have q1348 : x121_4 < (t1313.length : Int):=of_decide_eq_true (by first|(with_reducible assumption)|assumption);obtain ⟨ad1348,e1348,hx1348_0,hx1348_1⟩:=at_T62 (Kd.R_reads' HO_5.out).2.2 x121_4 p1348 q1348;obtain rfl : ad1347 = ad1348:=(by injection e1348);have hn1348_0 : ad1347.block ≠ gb1346:=(by first|exact Kd.own_blk (Kd.R_ne HO_5.out BK1346.out (by decide))|exact (HO_5.out.1 _ rfl).2);have hn1348_1 : ad1347.block ≠ gb1346:=(by first|exact Kd.own_blk (Kd.R_ne HO_5.out BK1346.out (by decide))|exact (HO_5.out.1 _ rfl).2);replace hx1348_0:=(cell_far (p:=⟨gb1346,0,none⟩) (by first|(rw [add_block];exact hn1348_0)|(show (Addr.add _ _).block ≠ _;rw [add_block];exact hn1348_0)|exact hn1348_0) (.int .i64 ((rd_T62 t1330 x121_4).f0))).trans hx1348_0;replace hx1348_1:=(cell_far (p:=⟨gb1346,0,none⟩) (by first|(rw [add_block];exact hn1348_0)|(show (Addr.add _ _).block ≠ _;rw [add_block];exact hn1348_0)|exact hn1348_0) (.int .i64 ((rd_T62 t1330 x121_4).f0))).trans hx1348_1;replace hx1348_0:=(cell_far (p:=⟨gb1346,1,none⟩) (by first|(rw [add_block];exact hn1348_1)|(show (Addr.add _ _).block ≠ _;rw [add_block];exact hn1348_1)|exact hn1348_1) (.int .i64 ((rd_T62 t1330 x121_4).f1))).trans hx1348_0;replace hx1348_1:=(cell_far (p:=⟨gb1346,1,none⟩) (by first|(rw [add_block];exact hn1348_1)|(show (Addr.add _ _).block ≠ _;rw [add_block];exact hn1348_1)|exact hn1348_1) (.int .i64 ((rd_T62 t1330 x121_4).f1))).trans hx1348_1;(try have hy1348_0:=fun (n_ : Nat)=>(show ((((w84.drewN n_).setCell ⟨gb1346,0,none⟩ (.int .i64 ((rd_T62 t1330 x121_4).f0))).setCell ⟨gb1346,1,none⟩ (.int .i64 ((rd_T62 t1330 x121_4).f1)))).cell? _ = some _ from hx1348_0));(try have hy1348_1:=fun (n_ : Nat)=>(show ((((w84.drewN n_).setCell ⟨gb1346,0,none⟩ (.int .i64 ((rd_T62 t1330 x121_4).f0))).setCell ⟨gb1346,1,none⟩ (.int .i64 ((rd_T62 t1330 x121_4).f1)))).cell? _ = some _ from hx1348_1));clear hn1348_0;clear hn1348_1;replace p1348:=eq_true p1348;replace q1348:=eq_true q1348));try go_wp2_with (first|((with_reducible refine gate_dst (N:=22) rfl ?_);refine box_event ?hg (N:=22) ?hd (cs:=#[.int .i64 0,.int .i64 0]) (t:=62) ?hr ?_;(case hd=>rfl);(case hg=>rfl);(case hr=>first|(go_simp;done)|(go_simp;rfl));intro gb1346 hg w84 hbox hb;replace HO_5:=A_ (Kd.R_below (Kd.R_elderB (rl_ HO_5) gb1346 (Nat.le_of_eq hg.symm)) hb);replace HO_10:=A_ (Kd.R_below (Kd.R_elderB (rl_ HO_10) gb1346 (Nat.le_of_eq hg.symm)) hb);replace HO_119:=A_ (Kd.R_below (Kd.R_elderB (rl_ HO_119) gb1346 (Nat.le_of_eq hg.symm)) hb);replace HO_1322001:=rb_ HO_1322001 hb;replace HO_1328001:=rb_ HO_1328001 hb;have BK1346:=A_ (hbox);have GW1346:=A_ ((by rw [hg];exact (below_size bb_) : w.heap.size ≤ gb1346));have GE1346:=A_ ((by rw [hg];exact (below_size bb_) : w.heap.size ≤ gb1346));replace HB:=A_ (below_step bb_ hb);have NB1321_1346:=A_ ((by rw [hg];exact Nat.ne_of_lt (blk_lt (bl_ BK1321)) : gb1321 ≠ gb1346));have NB1346_1321:=A_ ((by rw [hg];exact Nat.ne_of_gt (blk_lt (bl_ BK1321)) : gb1346 ≠ gb1321));replace BK1321:=bz BK1321 hb;have NB1327_1346:=A_ ((by rw [hg];exact Nat.ne_of_lt (blk_lt (bl_ BK1327)) : gb1327 ≠ gb1346));have NB1346_1327:=A_ ((by rw [hg];exact Nat.ne_of_gt (blk_lt (bl_ BK1327)) : gb1346 ≠ gb1327));replace BK1327:=bz BK1327 hb;clear hb hbox hg;have hnb85:=NB1346_1321.out;have hnc85:=NB1321_1346.out;have hnb86:=NB1346_1327.out;have hnc86:=NB1327_1346.out;have hcz87_0 : w84.cell? ⟨gb1346,0,none⟩ = some (.int .i64 0):=blk_cell BK1346.out 0;have hcz87_1 : w84.cell? ⟨gb1346,1,none⟩ = some (.int .i64 0):=blk_cell BK1346.out 1;have hfz87_0:=blk_frozen BK1346.out 0;have hfz87_1:=blk_frozen BK1346.out 1;have p1347 : 0 ≤ (x121_4 : Int):=of_decide_eq_true (by first|(with_reducible assumption)|assumption);have q1347 : x121_4 < (t1313.length : Int):=of_decide_eq_true (by first|(with_reducible assumption)|assumption);obtain ⟨ad1347,e1347,hx1347_0,hx1347_1⟩:=at_T62 (Kd.R_reads' HO_5.out).2.2 x121_4 p1347 q1347;cases e1347;have hn1347_0 : ad1347.block ≠ gb1346:=(by first|exact Kd.own_blk (Kd.R_ne HO_5.out BK1346.out (by decide))|exact (HO_5.out.1 _ rfl).2);have hn1347_1 : ad1347.block ≠ gb1346:=(by first|exact Kd.own_blk (Kd.R_ne HO_5.out BK1346.out (by decide))|exact (HO_5.out.1 _ rfl).2);replace hx1347_0:=(cell_far (p:=⟨gb1346,0,none⟩) (by first|(rw [add_block];exact hn1347_0)|(show (Addr.add _ _).block ≠ _;rw [add_block];exact hn1347_0)|exact hn1347_0) (.int .i64 ((rd_T62 t1330 x121_4).f0))).trans hx1347_0;replace hx1347_1:=(cell_far (p:=⟨gb1346,0,none⟩) (by first|(rw [add_block];exact hn1347_0)|(show (Addr.add _ _).block ≠ _;rw [add_block];exact hn1347_0)|exact hn1347_0) (.int .i64 ((rd_T62 t1330 x121_4).f0))).trans hx1347_1;replace hx1347_0:=(cell_far (p:=⟨gb1346,1,none⟩) (by first|(rw [add_block];exact hn1347_1)|(show (Addr.add _ _).block ≠ _;rw [add_block];exact hn1347_1)|exact hn1347_1) (.int .i64 ((rd_T62 t1330 x121_4).f1))).trans hx1347_0;replace hx1347_1:=(cell_far (p:=⟨gb1346,1,none⟩) (by first|(rw [add_block];exact hn1347_1)|(show (Addr.add _ _).block ≠ _;rw [add_block];exact hn1347_1)|exact hn1347_1) (.int .i64 ((rd_T62 t1330 x121_4).f1))).trans hx1347_1;(try have hy1347_0:=fun (n_ : Nat)=>(show ((((w84.drewN n_).setCell ⟨gb1346,0,none⟩ (.int .i64 ((rd_T62 t1330 x121_4).f0))).setCell ⟨gb1346,1,none⟩ (.int .i64 ((rd_T62 t1330 x121_4).f1)))).cell? _ = some _ from hx1347_0));(try have hy1347_1:=fun (n_ : Nat)=>(show ((((w84.drewN n_).setCell ⟨gb1346,0,none⟩ (.int .i64 ((rd_T62 t1330 x121_4).f0))).setCell ⟨gb1346,1,none⟩ (.int .i64 ((rd_T62 t1330 x121_4).f1)))).cell? _ = some _ from hx1347_1));clear hn1347_0;clear hn1347_1;replace p1347:=eq_true p1347;replace q1347:=eq_true q1347;have p1348 : 0 ≤ (x121_4 : Int):=of_decide_eq_true (by first|(with_reducible assumption)|assumption);have q1348 : x121_4 < (t1313.length : Int):=of_decide_eq_true (by first|(with_reducible assumption)|assumption);obtain ⟨ad1348,e1348,hx1348_0,hx1348_1⟩:=at_T62 (Kd.R_reads' HO_5.out).2.2 x121_4 p1348 q1348;obtain rfl : ad1347 = ad1348:=(by injection e1348);have hn1348_0 : ad1347.block ≠ gb1346:=(by first|exact Kd.own_blk (Kd.R_ne HO_5.out BK1346.out (by decide))|exact (HO_5.out.1 _ rfl).2);have hn1348_1 : ad1347.block ≠ gb1346:=(by first|exact Kd.own_blk (Kd.R_ne HO_5.out BK1346.out (by decide))|exact (HO_5.out.1 _ rfl).2);replace hx1348_0:=(cell_far (p:=⟨gb1346,0,none⟩) (by first|(rw [add_block];exact hn1348_0)|(show (Addr.add _ _).block ≠ _;rw [add_block];exact hn1348_0)|exact hn1348_0) (.int .i64 ((rd_T62 t1330 x121_4).f0))).trans hx1348_0;replace hx1348_1:=(cell_far (p:=⟨gb1346,0,none⟩) (by first|(rw [add_block];exact hn1348_0)|(show (Addr.add _ _).block ≠ _;rw [add_block];exact hn1348_0)|exact hn1348_0) (.int .i64 ((rd_T62 t1330 x121_4).f0))).trans hx1348_1;replace hx1348_0:=(cell_far (p:=⟨gb1346,1,none⟩) (by first|(rw [add_block];exact hn1348_1)|(show (Addr.add _ _).block ≠ _;rw [add_block];exact hn1348_1)|exact hn1348_1) (.int .i64 ((rd_T62 t1330 x121_4).f1))).trans hx1348_0;replace hx1348_1:=(cell_far (p:=⟨gb1346,1,none⟩) (by first|(rw [add_block];exact hn1348_1)|(show (Addr.add _ _).block ≠ _;rw [add_block];exact hn1348_1)|exact hn1348_1) (.int .i64 ((rd_T62 t1330 x121_4).f1))).trans hx1348_1;(try have hy1348_0:=fun (n_ : Nat)=>(show ((((w84.drewN n_).setCell ⟨gb1346,0,none⟩ (.int .i64 ((rd_T62 t1330 x121_4).f0))).setCell ⟨gb1346,1,none⟩ (.int .i64 ((rd_T62 t1330 x121_4).f1)))).cell? _ = some _ from hx1348_0));(try have hy1348_1:=fun (n_ : Nat)=>(show ((((w84.drewN n_).setCell ⟨gb1346,0,none⟩ (.int .i64 ((rd_T62 t1330 x121_4).f0))).setCell ⟨gb1346,1,none⟩ (.int .i64 ((rd_T62 t1330 x121_4).f1)))).cell? _ = some _ from hx1348_1));clear hn1348_0;clear hn1348_1;replace p1348:=eq_true p1348;replace q1348:=eq_true q1348)))
                    go_roundg k4
                    case measure=>have:=HJ7.out;have:=HJ38.out;have:=HK3.out;have:=HK4.out;omega
                    case rel=>exact ⟨(wrap64 (x121_4 + 1)),(by first|rfl|(simp;done)|(simp [*];done)),H',⟨by have:=HJ7.out;have:=HJ38.out;have:=HK3.out;have:=HK4.out;omega⟩,⟨by (with_reducible repeat (first|apply Kd.R_alloc|apply Kd.R_drewN|apply Kd.R_drew));exact Kd.R_mono (Kd.R_far (p:=⟨gb1346,1,none⟩) (Kd.R_far (p:=⟨gb1346,0,none⟩) (Kd.R_mono HO_5.out (fun k_ hk=>(⟨hk,hk.2⟩ : _ ∧ k_ ≠ gb1346))) (fun _ hk=>hk.2) (.int .i64 ((rd_T62 t1330 x121_4).f0))) (fun _ hk=>hk.2) (.int .i64 ((rd_T62 t1330 x121_4).f1))) (fun _ hk=>⟨hk.1.1.1,hk.1.1.2⟩)⟩,⟨by (with_reducible repeat (first|apply Kd.R_alloc|apply Kd.R_drewN|apply Kd.R_drew));exact Kd.R_mono (Kd.R_far (p:=⟨gb1346,1,none⟩) (Kd.R_far (p:=⟨gb1346,0,none⟩) (Kd.R_mono HO_10.out (fun k_ hk=>(⟨hk,hk.2⟩ : _ ∧ k_ ≠ gb1346))) (fun _ hk=>hk.2) (.int .i64 ((rd_T62 t1330 x121_4).f0))) (fun _ hk=>hk.2) (.int .i64 ((rd_T62 t1330 x121_4).f1))) (fun _ hk=>hk.1.1)⟩,⟨by (with_reducible repeat (first|apply Kd.R_alloc|apply Kd.R_drewN|apply Kd.R_drew));exact Kd.R_mono (Kd.R_far (p:=⟨gb1346,1,none⟩) (Kd.R_far (p:=⟨gb1346,0,none⟩) (Kd.R_mono HO_119.out (fun k_ hk=>(⟨hk,hk.2⟩ : _ ∧ k_ ≠ gb1346))) (fun _ hk=>hk.2) (.int .i64 ((rd_T62 t1330 x121_4).f0))) (fun _ hk=>hk.2) (.int .i64 ((rd_T62 t1330 x121_4).f1))) (fun _ hk=>hk.1.1)⟩,⟨by (with_reducible repeat (first|apply Kd.R_alloc|apply Kd.R_drewN|apply Kd.R_drew));exact Kd.R_mono (Kd.R_far (p:=⟨gb1346,1,none⟩) (Kd.R_far (p:=⟨gb1346,0,none⟩) (Kd.R_types HO_1322001.out BK1346.out (by decide)) (fun _ hk=>hk.2) (.int .i64 ((rd_T62 t1330 x121_4).f0))) (fun _ hk=>hk.2) (.int .i64 ((rd_T62 t1330 x121_4).f1))) (fun _ hk=>hk.1)⟩,⟨by (with_reducible repeat (first|apply Kd.R_alloc|apply Kd.R_drewN|apply Kd.R_drew));exact Kd.R_mono (Kd.R_far (p:=⟨gb1346,1,none⟩) (Kd.R_far (p:=⟨gb1346,0,none⟩) (Kd.R_types HO_1328001.out BK1346.out (by decide)) (fun _ hk=>hk.2) (.int .i64 ((rd_T62 t1330 x121_4).f0))) (fun _ hk=>hk.2) (.int .i64 ((rd_T62 t1330 x121_4).f1))) (fun _ hk=>hk.1)⟩,⟨by (with_reducible repeat (first|refine blk_drewN ?_ _|refine blk_drew ?_|refine blk_alloc ?_ _));refine blk_far ?_ NB1321_1346.out _;(with_reducible repeat (first|refine blk_drewN ?_ _|refine blk_drew ?_|refine blk_alloc ?_ _));refine blk_far ?_ NB1321_1346.out _;(with_reducible repeat (first|refine blk_drewN ?_ _|refine blk_drew ?_|refine blk_alloc ?_ _));exact BK1321.out⟩,⟨by (with_reducible repeat (first|refine blk_drewN ?_ _|refine blk_drew ?_|refine blk_alloc ?_ _));refine blk_far ?_ NB1327_1346.out _;(with_reducible repeat (first|refine blk_drewN ?_ _|refine blk_drew ?_|refine blk_alloc ?_ _));refine blk_far ?_ NB1327_1346.out _;(with_reducible repeat (first|refine blk_drewN ?_ _|refine blk_drew ?_|refine blk_alloc ?_ _));exact BK1327.out⟩,⟨bb_⟩⟩
                 ·rw [if_neg c73] at H;exact absurd H (by simp)
                ·rw [if_neg c72] at H;exact absurd H (by simp)
               ·rw [if_neg c71] at H;exact absurd H (by simp)
              ·rw [if_neg c70] at H;have c70b0 : decide (x121_4 < (t1330.length : Int)) = false:=decide_eq_false c70;clear c70;replace H:=Option.bind_eq_some_iff.mp H;obtain ⟨⟨t1349,t1350⟩,A880,H⟩:=H;replace H : (if t1350 = true then ((laws_pSameIntervals.f k4 t1313 t1330).bind fun t1351=>(some (t1349 == t1351))) else (some false)) = some r:=H;have A88:=A_ A880;clear A880;by_cases c89 : t1350 = true
               ·subst c89;have H1 : ((laws_pSameIntervals.f k4 t1313 t1330).bind fun t1351=>(some (t1349 == t1351))) = some r:=by rw [if_pos rfl] at H;exact H
                clear H;have H:=H1;clear H1;replace H:=Option.bind_eq_some_iff.mp H;obtain ⟨t1351,A900,H⟩:=H;replace H : (some (t1349 == t1351)) = some r:=H;have A90:=A_ A900;clear A900;obtain rfl:=Option.some.inj H;go_wp2_with (first|(go_at_call 51;(with_reducible refine (impl_AreLeastEnds.calls k4 _ _ t1313 t1349 true _ ?side1 ?side2 A88.out).mono ?_);(case side1=>exact cl_ (Kd.R_reads' HO_5.out).2.2);(case side2=>exact (Kd.R_reads' HO_5.out).2.1);rintro e w91 ⟨rfl,hb⟩;replace HO_5:=rb_ HO_5 hb;replace HO_10:=rb_ HO_10 hb;replace HO_119:=rb_ HO_119 hb;replace HO_1322001:=rb_ HO_1322001 hb;replace HO_1328001:=rb_ HO_1328001 hb;replace BK1321:=bz BK1321 hb;replace BK1327:=bz BK1327 hb;replace HB:=A_ (below_step bb_ hb);(try clear hb);(try clear hb2);(try clear hk);(try clear hi))|(go_at_call 52;(with_reducible refine (laws_pSameIntervals.calls k4 _ _ t1313 _ _ t1330 t1351 _ ?side1 ?side2 ?side3 ?side4 A90.out).mono ?_);(case side1=>exact cl_ (Kd.R_reads' HO_5.out).2.2);(case side2=>exact (Kd.R_reads' HO_5.out).2.1);(case side3=>exact cl_ (Kd.R_reads' HO_10.out).2.2);(case side4=>exact (Kd.R_reads' HO_10.out).2.1);rintro e w' ⟨rfl,⟨nd,rfl⟩⟩;(try first|exact ⟨rfl,_,World.drewN_drewN _ _ _⟩|exact ⟨rfl,_,Eq.trans (World.drewN_drewN _ _ _) (congrArg (World.drewN _) (Nat.add_assoc _ _ _))⟩)))
                repeat (go_quiet (first|(go_at_call 51;(with_reducible refine (impl_AreLeastEnds.calls k4 _ _ t1313 t1349 true _ ?side1 ?side2 A88.out).mono ?_);(case side1=>exact cl_ (Kd.R_reads' HO_5.out).2.2);(case side2=>exact (Kd.R_reads' HO_5.out).2.1);rintro e w91 ⟨rfl,hb⟩;replace HO_5:=rb_ HO_5 hb;replace HO_10:=rb_ HO_10 hb;replace HO_119:=rb_ HO_119 hb;replace HO_1322001:=rb_ HO_1322001 hb;replace HO_1328001:=rb_ HO_1328001 hb;replace BK1321:=bz BK1321 hb;replace BK1327:=bz BK1327 hb;replace HB:=A_ (below_step bb_ hb);(try clear hb);(try clear hb2);(try clear hk);(try clear hi))|(go_at_call 52;(with_reducible refine (laws_pSameIntervals.calls k4 _ _ t1313 _ _ t1330 t1351 _ ?side1 ?side2 ?side3 ?side4 A90.out).mono ?_);(case side1=>exact cl_ (Kd.R_reads' HO_5.out).2.2);(case side2=>exact (Kd.R_reads' HO_5.out).2.1);(case side3=>exact cl_ (Kd.R_reads' HO_10.out).2.2);(case side4=>exact (Kd.R_reads' HO_10.out).2.1);rintro e w' ⟨rfl,⟨nd,rfl⟩⟩;(try first|exact ⟨rfl,_,World.drewN_drewN _ _ _⟩|exact ⟨rfl,_,Eq.trans (World.drewN_drewN _ _ _) (congrArg (World.drewN _) (Nat.add_assoc _ _ _))⟩)));try go_wp2_with (first|(go_at_call 51;(with_reducible refine (impl_AreLeastEnds.calls k4 _ _ t1313 t1349 true _ ?side1 ?side2 A88.out).mono ?_);(case side1=>exact cl_ (Kd.R_reads' HO_5.out).2.2);(case side2=>exact (Kd.R_reads' HO_5.out).2.1);rintro e w91 ⟨rfl,hb⟩;replace HO_5:=rb_ HO_5 hb;replace HO_10:=rb_ HO_10 hb;replace HO_119:=rb_ HO_119 hb;replace HO_1322001:=rb_ HO_1322001 hb;replace HO_1328001:=rb_ HO_1328001 hb;replace BK1321:=bz BK1321 hb;replace BK1327:=bz BK1327 hb;replace HB:=A_ (below_step bb_ hb);(try clear hb);(try clear hb2);(try clear hk);(try clear hi))|(go_at_call 52;(with_reducible refine (laws_pSameIntervals.calls k4 _ _ t1313 _ _ t1330 t1351 _ ?side1 ?side2 ?side3 ?side4 A90.out).mono ?_);(case side1=>exact cl_ (Kd.R_reads' HO_5.out).2.2);(case side2=>exact (Kd.R_reads' HO_5.out).2.1);(case side3=>exact cl_ (Kd.R_reads' HO_10.out).2.2);(case side4=>exact (Kd.R_reads' HO_10.out).2.1);rintro e w' ⟨rfl,⟨nd,rfl⟩⟩;(try first|exact ⟨rfl,_,World.drewN_drewN _ _ _⟩|exact ⟨rfl,_,Eq.trans (World.drewN_drewN _ _ _) (congrArg (World.drewN _) (Nat.add_assoc _ _ _))⟩))))
                go_ret
                exact ⟨by first|rfl|(simp [errW_none,errW_some] <;> rfl)|(simp [*,errW_none,errW_some] <;> rfl),bb_⟩
               ·replace c89:=Bool.eq_false_iff.mpr c89;subst c89;have H1 : (some false) = some r:=by rw [if_neg (show ¬ (false = true) by decide)] at H;exact H
                clear H;have H:=H1;clear H1;obtain rfl:=Option.some.inj H;go_wp2_with (first|(go_at_call 51;(with_reducible refine (impl_AreLeastEnds.calls k4 _ _ t1313 t1349 false _ ?side1 ?side2 A88.out).mono ?_);(case side1=>exact cl_ (Kd.R_reads' HO_5.out).2.2);(case side2=>exact (Kd.R_reads' HO_5.out).2.1);rintro e w92 ⟨rfl,hb⟩;replace HO_5:=rb_ HO_5 hb;replace HO_10:=rb_ HO_10 hb;replace HO_119:=rb_ HO_119 hb;replace HO_1322001:=rb_ HO_1322001 hb;replace HO_1328001:=rb_ HO_1328001 hb;replace BK1321:=bz BK1321 hb;replace BK1327:=bz BK1327 hb;replace HB:=A_ (below_step bb_ hb);(try clear hb);(try clear hb2);(try clear hk);(try clear hi)))
                repeat (go_quiet (first|(go_at_call 51;(with_reducible refine (impl_AreLeastEnds.calls k4 _ _ t1313 t1349 false _ ?side1 ?side2 A88.out).mono ?_);(case side1=>exact cl_ (Kd.R_reads' HO_5.out).2.2);(case side2=>exact (Kd.R_reads' HO_5.out).2.1);rintro e w92 ⟨rfl,hb⟩;replace HO_5:=rb_ HO_5 hb;replace HO_10:=rb_ HO_10 hb;replace HO_119:=rb_ HO_119 hb;replace HO_1322001:=rb_ HO_1322001 hb;replace HO_1328001:=rb_ HO_1328001 hb;replace BK1321:=bz BK1321 hb;replace BK1327:=bz BK1327 hb;replace HB:=A_ (below_step bb_ hb);(try clear hb);(try clear hb2);(try clear hk);(try clear hi)));try go_wp2_with (first|(go_at_call 51;(with_reducible refine (impl_AreLeastEnds.calls k4 _ _ t1313 t1349 false _ ?side1 ?side2 A88.out).mono ?_);(case side1=>exact cl_ (Kd.R_reads' HO_5.out).2.2);(case side2=>exact (Kd.R_reads' HO_5.out).2.1);rintro e w92 ⟨rfl,hb⟩;replace HO_5:=rb_ HO_5 hb;replace HO_10:=rb_ HO_10 hb;replace HO_119:=rb_ HO_119 hb;replace HO_1322001:=rb_ HO_1322001 hb;replace HO_1328001:=rb_ HO_1328001 hb;replace BK1321:=bz BK1321 hb;replace BK1327:=bz BK1327 hb;replace HB:=A_ (below_step bb_ hb);(try clear hb);(try clear hb2);(try clear hk);(try clear hi))))
                go_ret
                exact ⟨by first|rfl|(simp [errW_none,errW_some] <;> rfl)|(simp [*,errW_none,errW_some] <;> rfl),bb_⟩
     ·replace c34:=Bool.eq_false_iff.mpr c34;subst c34;have H1 : (some true) = some r:=by rw [if_neg (show ¬ (false = true) by decide)] at H;exact H
      clear H;have H:=H1;clear H1;obtain rfl:=Option.some.inj H;go_wp2
      repeat (go_quiet (fail);try go_wp2)
      go_ret
      exact ⟨by first|rfl|(simp [errW_none,errW_some] <;> rfl)|(simp [*,errW_none,errW_some] <;> rfl),bb_⟩
def laws_FnEndsAreLeast.Pure : Prop := ∀ (l0 : List Int) (l1 : List Int), l0.length ≤ maxLen → l0.length * 1 ≤ 140737488351232 → (∀ x ∈ l0, (Lit.int .u8 x).wf = true) → l1.length ≤ maxLen → l1.length * 1 ≤ 140737488351232 → (∀ x ∈ l1, (Lit.int .u8 x).wf = true) → ∃ k, laws_FnEndsAreLeast.f k l0 l1 = some true
theorem laws_FnEndsAreLeast.walk (P : laws_FnEndsAreLeast.Pure) (a0 : Option Addr) (len0 cap0 : Nat) (z0 : List Int) (a1 : Option Addr) (len1 cap1 : Nat) (z1 : List Int) (w : World) (w0 : (a0 = none ∧ len0 = 0 ∧ cap0 = 0 ∧ z0 = []) ∨ ∃ x,a0 = some x ∧ len0 ≤ cap0 ∧ cap0 ≤ maxLen ∧ z0.length = cap0 ∧ (∀ i,i < z0.length → w.cell? (x.add i) = some (.int .u8 (z0.getD i 0))) ∧ ∀ n ∈ z0,(Lit.int .u8 n).wf = true) (y0 : len0 * 1 ≤ 140737488351232) (w1 : (a1 = none ∧ len1 = 0 ∧ cap1 = 0 ∧ z1 = []) ∨ ∃ x,a1 = some x ∧ len1 ≤ cap1 ∧ cap1 ≤ maxLen ∧ z1.length = cap1 ∧ (∀ i,i < z1.length → w.cell? (x.add i) = some (.int .u8 (z1.getD i 0))) ∧ ∀ n ∈ z1,(Lit.int .u8 n).wf = true) (y1 : len1 * 1 ≤ 140737488351232) (hT : TabOK w) :
 Calls Tryd.prog 6 #[.slice a0 len0 cap0,.slice a1 len1 cap1] w fun e w'=>e = .returned (.bool true) ∧ Below w.heap.size w w':=by
 obtain ⟨l0,rfl,hr0,hm0,hw0,hc0⟩:=ReadsInt.ofRowC w0;obtain ⟨l1,rfl,hr1,hm1,hw1,hc1⟩:=ReadsInt.ofRowC w1;obtain ⟨k,h⟩:=P l0 l1 hm0 y0 hw0 hm1 y1 hw1;refine (laws_FnEndsAreLeast.calls k _ _ l0 _ _ l1 true w (Kd.C_of_reads (d:=(0 : Int)) (h1:=fun _=>rfl) hr0) hc0 (Kd.C_of_reads (d:=(0 : Int)) (h1:=fun _=>rfl) hr1) hc1 hT h).mono ?_
 rintro e w' ⟨rfl,hd⟩
 exact ⟨rfl,hd⟩
def spec_orFree.f (k : Nat) (a0_0 : Int) (l0_1 : List Int) (a1 : Int) : Option (Int) := if 0 ≤ a0_0 then (if 0 ≤ a1 then (if a1 < (l0_1.length : Int) then ((spec_orBelow.f k a0_0 l0_1 a1).bind fun t126 => (some (Go.bits .andNot .i64 (wrap64 ((shl .i64 1 a0_0) - 1)) (Go.bits .or .i64 (Go.bits .or .i64 (rd l0_1 a1) t126) (shl .i64 1 a1))))) else (none)) else (none)) else (none)
mutual
def spec_ThreeOneOf.l0 : Nat → Int → Int → List Int → Option (List Int × Bool)
 | 0,_,_,_=>none
 | k + 1,x4,x128000,x128001=>if x4 < x128000 then (if 0 ≤ x4 then (if x4 < (x128001.length : Int) then ((spec_orList.f k (rd x128001 x4)).bind fun t130=>(spec_ThreeOneOf.l1 k x4 t130 (t130.length : Int) 0 x128000 x128001)) else (none)) else (none)) else (some (([] : List Int),false))
def spec_ThreeOneOf.l1 : Nat → Int → List Int → Int → Int → Int → List Int → Option (List Int × Bool)
 | 0,_,_,_,_,_,_=>none
 | k + 1,x4,x25,x26,x27,x128000,x128001=>if x27 < x26 then (if 0 ≤ x27 then (if x27 < (x25.length : Int) then (if 0 ≤ (rd x25 x27) then (if (rd x25 x27) < (x128001.length : Int) then ((spec_orList.f k (rd x128001 (rd x25 x27))).bind fun t135=>(spec_ThreeOneOf.l2 k x4 (rd x25 x27) x25 x26 x27 t135 (t135.length : Int) 0 x128000 x128001)) else (none)) else (none)) else (none)) else (none)) else (spec_ThreeOneOf.l0 k (wrap64 (x4 + 1)) x128000 x128001)
def spec_ThreeOneOf.l2 : Nat → Int → Int → List Int → Int → Int → List Int → Int → Int → Int → List Int → Option (List Int × Bool)
 | 0,_,_,_,_,_,_,_,_,_,_=>none
 | k + 1,x4,x6,x25,x26,x27,x36,x37,x38,x128000,x128001=>if x38 < x37 then (if 0 ≤ x38 then (if x38 < (x36.length : Int) then ((spec_orFree.f k x128000 x128001 x4).bind fun t139=>((spec_orFree.f k x128000 x128001 x6).bind fun t140=>((spec_orFree.f k x128000 x128001 (rd x36 x38)).bind fun t141=>((spec_orList.f k (Go.bits .and .i64 (Go.bits .and .i64 t139 t140) t141)).bind fun t142=>(spec_ThreeOneOf.l3 k x4 x6 (rd x36 x38) x25 x26 x27 x36 x37 x38 t142 (t142.length : Int) 0 x128000 x128001))))) else (none)) else (none)) else (spec_ThreeOneOf.l1 k x4 x25 x26 (wrap64 (x27 + 1)) x128000 x128001)
def spec_ThreeOneOf.l3 : Nat → Int → Int → Int → List Int → Int → Int → List Int → Int → Int → List Int → Int → Int → Int → List Int → Option (List Int × Bool)
 | 0,_,_,_,_,_,_,_,_,_,_,_,_,_,_=>none
 | k + 1,x4,x6,x8,x25,x26,x27,x36,x37,x38,x53,x54,x55,x128000,x128001=>if x55 < x54 then (if 0 ≤ x55 then (if x55 < (x53.length : Int) then (some ((([x4,x6,x8,rd x53 x55] : List Int)),true)) else (none)) else (none)) else (spec_ThreeOneOf.l2 k x4 x6 x25 x26 x27 x36 x37 (wrap64 (x38 + 1)) x128000 x128001)
end
def spec_seIndifferent.f (k : Nat) (a0_0 : Int) (l0_1 : List Int) (a1 : Int) (a2 : Int) : Option (Bool) := (spec_orFree.f k a0_0 l0_1 a1).bind fun t150 => ((spec_orHas.f t150 a2).bind fun t151 => (some t151))
mutual
def spec_seTwoTwo.l0 : Nat → Int → Int → List Int → Option (Bool)
 | 0,_,_,_=>none
 | k + 1,x3,x153000,x153001=>if x3 < x153000 then (if 0 ≤ x3 then (if x3 < (x153001.length : Int) then ((spec_orList.f k (rd x153001 x3)).bind fun t154=>(spec_seTwoTwo.l1 k x3 t154 (t154.length : Int) 0 x153000 x153001)) else (none)) else (none)) else (some false)
def spec_seTwoTwo.l1 : Nat → Int → List Int → Int → Int → Int → List Int → Option (Bool)
 | 0,_,_,_,_,_,_=>none
 | k + 1,x3,x20,x21,x22,x153000,x153001=>if x22 < x21 then (if 0 ≤ x22 then (if x22 < (x20.length : Int) then (spec_seTwoTwo.l2 k x3 (rd x20 x22) 0 x20 x21 x22 x153000 x153001) else (none)) else (none)) else (spec_seTwoTwo.l0 k (wrap64 (x3 + 1)) x153000 x153001)
def spec_seTwoTwo.l2 : Nat → Int → Int → Int → List Int → Int → Int → Int → List Int → Option (Bool)
 | 0,_,_,_,_,_,_,_,_=>none
 | k + 1,x3,x5,x6,x20,x21,x22,x153000,x153001=>if x6 < x153000 then (if 0 ≤ x6 then (if x6 < (x153001.length : Int) then ((spec_orList.f k (rd x153001 x6)).bind fun t159=>(spec_seTwoTwo.l3 k x3 x5 x6 x20 x21 x22 t159 (t159.length : Int) 0 x153000 x153001)) else (none)) else (none)) else (spec_seTwoTwo.l1 k x3 x20 x21 (wrap64 (x22 + 1)) x153000 x153001)
def spec_seTwoTwo.l3 : Nat → Int → Int → Int → List Int → Int → Int → List Int → Int → Int → Int → List Int → Option (Bool)
 | 0,_,_,_,_,_,_,_,_,_,_,_=>none
 | k + 1,x3,x5,x6,x20,x21,x22,x37,x38,x39,x153000,x153001=>if x39 < x38 then (if 0 ≤ x39 then (if x39 < (x37.length : Int) then ((spec_seIndifferent.f k x153000 x153001 x3 (rd x37 x39)).bind fun t163=>(if t163 = true then ((spec_seIndifferent.f k x153000 x153001 x6 x5).bind fun t164=>(if t164 = true then (some true) else (spec_seTwoTwo.l3 k x3 x5 x6 x20 x21 x22 x37 x38 (wrap64 (x39 + 1)) x153000 x153001))) else (spec_seTwoTwo.l3 k x3 x5 x6 x20 x21 x22 x37 x38 (wrap64 (x39 + 1)) x153000 x153001))) else (none)) else (none)) else (spec_seTwoTwo.l2 k x3 x5 (wrap64 (x6 + 1)) x20 x21 x22 x153000 x153001)
end
def impl_Order_all.f (a0_0 : Int) (l0_1 : List Int) : Option (Int) := if 0 ≤ a0_0 then (some (wrap64 ((shl .i64 1 a0_0) - 1))) else (none)
def impl_Order_indifferent.l0 : Nat → List Int → Int → Int → Int → List Int → Int → List Int → Option (List Int)
 | 0,_,_,_,_,_,_,_=>none
 | k + 1,x3,x10,x11,x300000,x300001,x308000,x308001=>if x11 < x10 then ((impl_Order_all.f x300000 x300001).bind fun t308=>(if 0 ≤ x11 then (if x11 < (x300001.length : Int) then (if x11 < (x308001.length : Int) then (if x3.length < 17592186044416 then (impl_Order_indifferent.l0 k (x3 ++ [Go.bits .andNot .i64 (Go.bits .andNot .i64 (Go.bits .andNot .i64 t308 (rd x300001 x11)) (rd x308001 x11)) (shl .i64 1 x11)]) x10 (wrap64 (x11 + 1)) x300000 x300001 x308000 x308001) else (none)) else (none)) else (none)) else (none))) else (some x3)
mutual
def impl_Order_threeOne.l0 : Nat → List Int → Int → Int → Int → List Int → Option (List Int)
 | 0,_,_,_,_,_=>none
 | k + 1,x3,x13,x14,x315000,x315001=>if x14 < x13 then (if 0 ≤ x14 then (if x14 < (x315001.length : Int) then ((impl_members.f k (rd x315001 x14)).bind fun t319=>(impl_Order_threeOne.l1 k x3 x14 x13 x14 t319 (t319.length : Int) 0 x315000 x315001)) else (none)) else (none)) else (some ([] : List Int))
def impl_Order_threeOne.l1 : Nat → List Int → Int → Int → Int → List Int → Int → Int → Int → List Int → Option (List Int)
 | 0,_,_,_,_,_,_,_,_,_=>none
 | k + 1,x3,x4,x13,x14,x22,x23,x24,x315000,x315001=>if x24 < x23 then (if 0 ≤ x24 then (if x24 < (x22.length : Int) then (if 0 ≤ (rd x22 x24) then (if (rd x22 x24) < (x315001.length : Int) then ((impl_members.f k (rd x315001 (rd x22 x24))).bind fun t324=>(impl_Order_threeOne.l2 k x3 x4 (rd x22 x24) x13 x14 x22 x23 x24 t324 (t324.length : Int) 0 x315000 x315001)) else (none)) else (none)) else (none)) else (none)) else (impl_Order_threeOne.l0 k x3 x13 (wrap64 (x14 + 1)) x315000 x315001)
def impl_Order_threeOne.l2 : Nat → List Int → Int → Int → Int → Int → List Int → Int → Int → List Int → Int → Int → Int → List Int → Option (List Int)
 | 0,_,_,_,_,_,_,_,_,_,_,_,_,_=>none
 | k + 1,x3,x4,x6,x13,x14,x22,x23,x24,x33,x34,x35,x315000,x315001=>if x35 < x34 then (if 0 ≤ x35 then (if x35 < (x33.length : Int) then (if 0 ≤ x4 then (if x4 < (x3.length : Int) then (if 0 ≤ x6 then (if x6 < (x3.length : Int) then (if 0 ≤ (rd x33 x35) then (if (rd x33 x35) < (x3.length : Int) then (if (Go.bits .and .i64 (Go.bits .and .i64 (rd x3 x4) (rd x3 x6)) (rd x3 (rd x33 x35))) = 0 then (impl_Order_threeOne.l2 k x3 x4 x6 x13 x14 x22 x23 x24 x33 x34 (wrap64 (x35 + 1)) x315000 x315001) else ((impl_members.f k (Go.bits .and .i64 (Go.bits .and .i64 (rd x3 x4) (rd x3 x6)) (rd x3 (rd x33 x35)))).bind fun t331=>(if 0 < (t331.length : Int) then (some (([x4,x6,rd x33 x35,rd t331 0] : List Int))) else (none)))) else (none)) else (none)) else (none)) else (none)) else (none)) else (none)) else (none)) else (none)) else (impl_Order_threeOne.l1 k x3 x4 x13 x14 x22 x23 (wrap64 (x24 + 1)) x315000 x315001)
end
theorem impl_isSemi.nilAt {P : Program} (w : World) (d : Nat) (t e : TypeId) (a : Option Addr) (l c : Nat) (h : P.underlying t = some (.slice e)) : (Op.equalIn (d + 1) t (.slice a l c) (.slice none 0 0)).run P w = .ok a.isNone w:=by
 cases a <;> simp [Op.equalIn,run_underlying h]
theorem impl_isSemi.nilOf {P : Program} (w : World) (t e : TypeId) (a : Option Addr) (l c : Nat) (h : P.underlying t = some (.slice e)) : (binOp .eql t (.slice a l c) (.slice none 0 0)).run P w = .ok (.bool a.isNone) w:=by
 have h1 : (Op.equal t (.slice a l c) (.slice none 0 0)).run P w = .ok a.isNone w:=impl_isSemi.nilAt w 9999 t e a l c h;simp [binOp,h1]
theorem impl_isSemi.nilNo {P : Program} (w : World) (t e : TypeId) (a : Option Addr) (l c : Nat) (h : P.underlying t = some (.slice e)) : (binOp .neq t (.slice a l c) (.slice none 0 0)).run P w = .ok (.bool (!a.isNone)) w:=by
 have h1 : (Op.equal t (.slice a l c) (.slice none 0 0)).run P w = .ok a.isNone w:=impl_isSemi.nilAt w 9999 t e a l c h;simp [binOp,h1]
theorem impl_isSemi.nilE (w : World) (a : Option Addr) (l c : Nat) : (binOp .eql 22 (.slice a l c) (.slice none 0 0)).run Tryd.prog w = .ok (.bool a.isNone) w:=impl_isSemi.nilOf w _ _ a l c Tryd.underlying22
theorem impl_isSemi.nilN (w : World) (a : Option Addr) (l c : Nat) : (binOp .neq 22 (.slice a l c) (.slice none 0 0)).run Tryd.prog w = .ok (.bool (!a.isNone)) w:=impl_isSemi.nilNo w _ _ a l c Tryd.underlying22
attribute [local go_sem] impl_isSemi.nilE impl_isSemi.nilN
def spec_orMirror.l0 : Nat → Int → Int → Int → List Int → Int → List Int → Option (Int × List Int)
 | 0,_,_,_,_,_,_=>none
 | k + 1,x10,x11,x868000,x868001,x870000,x870001=>if x11 < x10 then ((spec_orBelow.f k x868000 x868001 x11).bind fun t870=>(if x870001.length < 17592186044416 then (spec_orMirror.l0 k x10 (wrap64 (x11 + 1)) x868000 x868001 x870000 (x870001 ++ [t870])) else (none))) else (some (x870000,x870001))
def spec_l1Cur_one.f (s0_0 : List Int) (s0_1 : Int) (s0_2 : Int) (a1 : Int) : Option (Bool × Int × Int) := (spec_l1Cur_pick.f s0_0 s0_1 s0_2 a1).bind fun bt727 => (some ((bt727.1 == 0), bt727.2.1, bt727.2.2))
def spec_l1Own.f (l0 : List Int) : Option (List Int) := (some (([] : List Int) : List Int)).bind fun y175 => (if y175.length + l0.length < 17592186044416 then (some (y175 ++ l0)) else (none))
mutual
def spec_CloseRelation.l0 : Nat → Int → Int → Int → List Int → Option (Int × List Int × Bool)
 | 0,_,_,_,_=>none
 | k + 1,x19,x20,x737000,x737001=>if x20 < x19 then (spec_CloseRelation.l1 k x20 x19 x20 (x737001.length : Int) 0 x737000 x737001) else (some (x737000,x737001,true))
def spec_CloseRelation.l1 : Nat → Int → Int → Int → Int → Int → Int → List Int → Option (Int × List Int × Bool)
 | 0,_,_,_,_,_,_,_=>none
 | k + 1,x5,x19,x20,x25,x26,x737000,x737001=>if x26 < x25 then (if 0 ≤ x26 then (if x26 < (x737001.length : Int) then ((spec_orHas.f (rd x737001 x26) x5).bind fun t738=>(if t738 = true then (if 0 ≤ x5 then (if x5 < (x737001.length : Int) then (spec_CloseRelation.l1 k x5 x19 x20 x25 (wrap64 (x26 + 1)) x737000 (x737001.set (x26 : Int).toNat (Go.bits .or .i64 (rd x737001 x26) (rd x737001 x5)))) else (none)) else (none)) else (spec_CloseRelation.l1 k x5 x19 x20 x25 (wrap64 (x26 + 1)) x737000 x737001))) else (none)) else (none)) else (spec_CloseRelation.l0 k x19 (wrap64 (x20 + 1)) x737000 x737001)
end
def spec_CloseRelation.f (k : Nat) (a0_0 : Int) (l0_1 : List Int) : Option (Int × List Int × Bool) := (spec_orRelation.f k a0_0 l0_1).bind fun t732 => (if t732 = true then ((spec_l1Own.f l0_1).bind fun t733 => (spec_CloseRelation.l0 k (t733.length : Int) 0 a0_0 t733)) else (some (0, ([] : List Int), false)))
mutual
def spec_l1Cur_order.l0 : Nat → Int → Int → List Int → List Int → Int → List Int → Int → Int → Int → List Int → Option (Int × List Int × Int × Int)
 | 0,_,_,_,_,_,_,_,_,_,_=>none
 | k + 1,x5,x7,x8,x9,x10,x1000,x1001,x1002,x750000,x750001=>if x10 < x5 then ((spec_l1Cur_pick.f x1000 x1001 x1002 8).bind fun bt753=>(if x8.length < 17592186044416 then ((some (x8 ++ [bt753.1] : List Int)).bind fun y756=>(if x7 = 1 then ((spec_l1Cur_pick.f x1000 bt753.2.1 bt753.2.2 4).bind fun bt759=>(if x9.length < 17592186044416 then (spec_l1Cur_order.l0 k x5 x7 y756 (x9 ++ [wrap64 (bt753.1 + bt759.1)]) (wrap64 (x10 + 1)) x1000 bt759.2.1 bt759.2.2 x750000 x750001) else (none))) else (if x9.length < 17592186044416 then (spec_l1Cur_order.l0 k x5 x7 y756 (x9 ++ [wrap64 (bt753.1 + 2)]) (wrap64 (x10 + 1)) x1000 bt753.2.1 bt753.2.2 x750000 x750001) else (none)))) else (none))) else (spec_l1Cur_order.l1 k x5 x7 x8 x9 0 x1000 x1001 x1002 x750000 x750001)
def spec_l1Cur_order.l1 : Nat → Int → Int → List Int → List Int → Int → List Int → Int → Int → Int → List Int → Option (Int × List Int × Int × Int)
 | 0,_,_,_,_,_,_,_,_,_,_=>none
 | k + 1,x5,x7,x8,x9,x12,x1000,x1001,x1002,x750000,x750001=>if x12 < x5 then (spec_l1Cur_order.l2 k x5 x7 x8 x9 x12 0 x1000 x1001 x1002 x750000 x750001) else (if x7 > 0 then (some (x750000,x750001,x1001,x1002)) else ((spec_CloseRelation.f k x750000 x750001).bind fun bt768=>(some (bt768.1,bt768.2.1,x1001,x1002))))
def spec_l1Cur_order.l2 : Nat → Int → Int → List Int → List Int → Int → Int → List Int → Int → Int → Int → List Int → Option (Int × List Int × Int × Int)
 | 0,_,_,_,_,_,_,_,_,_,_,_=>none
 | k + 1,x5,x7,x8,x9,x12,x13,x1000,x1001,x1002,x750000,x750001=>if x13 < x5 then (if x7 > 0 then (if 0 ≤ x12 then (if x12 < (x9.length : Int) then (if 0 ≤ x13 then (if x13 < (x8.length : Int) then (if (rd x9 x12) < (rd x8 x13) then (if x12 < (x750001.length : Int) then (spec_l1Cur_order.l2 k x5 x7 x8 x9 x12 (wrap64 (x13 + 1)) x1000 x1001 x1002 x750000 (x750001.set (x12 : Int).toNat (Go.bits .or .i64 (rd x750001 x12) (shl .i64 1 x13)))) else (none)) else (if x7 = 0 then (if x12 < x13 then ((spec_l1Cur_one.f x1000 x1001 x1002 3).bind fun bt778=>(if bt778.1 = true then (if x12 < (x750001.length : Int) then (spec_l1Cur_order.l2 k x5 x7 x8 x9 x12 (wrap64 (x13 + 1)) x1000 bt778.2.1 bt778.2.2 x750000 (x750001.set (x12 : Int).toNat (Go.bits .or .i64 (rd x750001 x12) (shl .i64 1 x13)))) else (none)) else (spec_l1Cur_order.l2 k x5 x7 x8 x9 x12 (wrap64 (x13 + 1)) x1000 bt778.2.1 bt778.2.2 x750000 x750001))) else (spec_l1Cur_order.l2 k x5 x7 x8 x9 x12 (wrap64 (x13 + 1)) x1000 x1001 x1002 x750000 x750001)) else (spec_l1Cur_order.l2 k x5 x7 x8 x9 x12 (wrap64 (x13 + 1)) x1000 x1001 x1002 x750000 x750001))) else (none)) else (none)) else (none)) else (none)) else (if x7 = 0 then (if x12 < x13 then ((spec_l1Cur_one.f x1000 x1001 x1002 3).bind fun bt783=>(if bt783.1 = true then (if 0 ≤ x12 then (if x12 < (x750001.length : Int) then (if 0 ≤ x13 then (spec_l1Cur_order.l2 k x5 x7 x8 x9 x12 (wrap64 (x13 + 1)) x1000 bt783.2.1 bt783.2.2 x750000 (x750001.set (x12 : Int).toNat (Go.bits .or .i64 (rd x750001 x12) (shl .i64 1 x13)))) else (none)) else (none)) else (none)) else (spec_l1Cur_order.l2 k x5 x7 x8 x9 x12 (wrap64 (x13 + 1)) x1000 bt783.2.1 bt783.2.2 x750000 x750001))) else (spec_l1Cur_order.l2 k x5 x7 x8 x9 x12 (wrap64 (x13 + 1)) x1000 x1001 x1002 x750000 x750001)) else (spec_l1Cur_order.l2 k x5 x7 x8 x9 x12 (wrap64 (x13 + 1)) x1000 x1001 x1002 x750000 x750001))) else (spec_l1Cur_order.l1 k x5 x7 x8 x9 (wrap64 (x12 + 1)) x1000 x1001 x1002 x750000 x750001)
end
end Go.Proofs.YtimjblnglhmakaaDoor.P
namespace Go.Proofs.YtimjblnglhmakaaDoor.P
open Go.RowKit Go.Proofs.YtimjblnglhmakaaDoorW.PrintWords Go.Proofs.YtimjblnglhmakaaDoorW.PrintLast Go.Proofs.YtimjblnglhmakaaDoorW.PrintMore
open Bool renaming true → T, false → F
open List renaming setIfInBounds_toArray → L_, set_cons_zero → M_, set_cons_succ → N_, map_toArray → P_, map_cons → Q_, map_nil → R_, length_drop → S_, length_take → U_
open Aside0 renaming mk → A_
attribute [local go_sem] max2_int min2_int max_two min_two max_three min_three max_four min_four
set_option linter.unusedVariables false
set_option linter.unusedSimpArgs false
attribute [local go_sem] fldOrder_0 fldOrder_1
mutual
def spec_l1Cur_relation.l0 : Nat → List Int → Int → Int → Int → List Int → Option (Int × List Int × Int × Int)
 | 0,_,_,_,_,_=>none
 | k + 1,x1000,x1001,x1002,x793000,x793001=>if (x793001.length : Int) < x793000 then (spec_l1Cur_relation.l1 k 0 0 x1000 x1001 x1002 x793000 x793001) else (some (x793000,x793001,x1001,x1002))
def spec_l1Cur_relation.l1 : Nat → Int → Int → List Int → Int → Int → Int → List Int → Option (Int × List Int × Int × Int)
 | 0,_,_,_,_,_,_,_=>none
 | k + 1,x6,x7,x1000,x1001,x1002,x793000,x793001=>if x7 < x793000 then ((spec_l1Cur_one.f x1000 x1001 x1002 4).bind fun bt793=>(if bt793.1 = true then (if 0 ≤ x7 then (spec_l1Cur_relation.l1 k (Go.bits .or .i64 x6 (shl .i64 1 x7)) (wrap64 (x7 + 1)) x1000 bt793.2.1 bt793.2.2 x793000 x793001) else (none)) else (spec_l1Cur_relation.l1 k x6 (wrap64 (x7 + 1)) x1000 bt793.2.1 bt793.2.2 x793000 x793001))) else (if x793001.length < 17592186044416 then (spec_l1Cur_relation.l0 k x1000 x1001 x1002 x793000 (x793001 ++ [x6])) else (none))
end
end Go.Proofs.YtimjblnglhmakaaDoor.P
namespace Go.Proofs.YtimjblnglhmakaaDoor.M
open Go.RowKit Go.Proofs.YtimjblnglhmakaaDoorW.PrintMore Go.Proofs.YtimjblnglhmakaaDoorW.PrintLast Go.Proofs.YtimjblnglhmakaaDoorW.PrintWords
theorem i64_small (n : Nat) (h : n < 9223372036854775808) : IntKind.i64.wrap (n : Int) = (n : Int) := by
  simp [IntKind.wrap, IntKind.signed, IntKind.bits]
  omega
theorem wrap64_id (x : Int) (h0 : -9223372036854775808 ≤ x) (h1 : x ≤ 9223372036854775807) : wrap64 x = x := by
  unfold wrap64
  omega
theorem ofInt64 (a : Nat) (ha : a < 18446744073709551616) : (BitVec.ofInt 64 (a : Int)).toNat = a := by
  rw [BitVec.ofInt_natCast, BitVec.toNat_ofNat]; exact Nat.mod_eq_of_lt (by omega)
theorem and_i64 (a b : Nat) (ha : a < 9223372036854775808) (hb : b < 9223372036854775808) : Go.bits .and .i64 (a : Int) (b : Int) = ((a &&& b : Nat) : Int) := by
  have hx : a &&& b < 2 ^ 63 := Nat.and_lt_two_pow _ (by omega)
  show IntKind.i64.wrap ((BitVec.ofInt 64 (a : Int) &&& BitVec.ofInt 64 (b : Int)).toNat : Int) = _
  rw [BitVec.toNat_and, ofInt64 a (by omega), ofInt64 b (by omega), i64_small _ (by omega)]
theorem or_i64 (a b : Nat) (ha : a < 9223372036854775808) (hb : b < 9223372036854775808) : Go.bits .or .i64 (a : Int) (b : Int) = ((a ||| b : Nat) : Int) := by
  have hx : a ||| b < 2 ^ 63 := Nat.or_lt_two_pow (by omega) (by omega)
  show IntKind.i64.wrap ((BitVec.ofInt 64 (a : Int) ||| BitVec.ofInt 64 (b : Int)).toNat : Int) = _
  rw [BitVec.toNat_or, ofInt64 a (by omega), ofInt64 b (by omega), i64_small _ (by omega)]
def diff (a b : Nat) : Nat := a &&& (a ^^^ b)
theorem testBit_diff (a b i : Nat) : (diff a b).testBit i = (a.testBit i && !b.testBit i) := by
  unfold diff
  rw [Nat.testBit_and, Nat.testBit_xor]
  cases a.testBit i <;> cases b.testBit i <;> rfl
theorem andNot_i64 (a b : Nat) (ha : a < 9223372036854775808) (hb : b < 9223372036854775808) : Go.bits .andNot .i64 (a : Int) (b : Int) = ((diff a b : Nat) : Int) := by
  have hx : diff a b < 2 ^ 63 := Nat.lt_of_le_of_lt Nat.and_le_left (by omega)
  show IntKind.i64.wrap ((BitVec.ofInt 64 (a : Int) &&& ~~~ BitVec.ofInt 64 (b : Int)).toNat : Int) = _
  have e : (BitVec.ofInt 64 (a : Int) &&& ~~~ BitVec.ofInt 64 (b : Int)).toNat = diff a b := by
    apply Nat.eq_of_testBit_eq
    intro i
    rw [BitVec.toNat_and, Nat.testBit_and, testBit_diff, ofInt64 a (by omega)]
    by_cases hi : i < 64
    · rw [show (~~~ BitVec.ofInt 64 (b : Int)).toNat.testBit i = !(BitVec.ofInt 64 (b : Int)).toNat.testBit i from by
        rw [BitVec.testBit_toNat, BitVec.testBit_toNat, BitVec.getLsbD_not]; simp [hi], ofInt64 b (by omega)]
    · rw [Nat.testBit_lt_two_pow (x := a) (i := i) (Nat.lt_of_lt_of_le (by omega : a < 2 ^ 64) (Nat.pow_le_pow_right (by decide) (by omega)))]
      rfl
  rw [e, i64_small _ (by omega)]
theorem shl1 (j : Nat) (h : j ≤ 62) : shl .i64 1 (j : Int) = ((2 ^ j : Nat) : Int) := by
  unfold shl
  have h2 : (2 : Nat) ^ j < 9223372036854775808 := Nat.lt_of_le_of_lt (Nat.pow_le_pow_right (by decide) h) (by decide)
  rw [Int.toNat_natCast, Nat.min_eq_left (by show j ≤ 64; omega), Int.one_mul]
  have := i64_small (2 ^ j) h2
  rwa [Int.natCast_pow] at this ⊢
theorem shr_nat (a j : Nat) (h : j ≤ 64) : shr .i64 (a : Int) (j : Int) = ((a / 2 ^ j : Nat) : Int) := by
  unfold shr
  rw [Int.toNat_natCast, Nat.min_eq_left (by exact h)]
  simp
def bit (s : Int) (j : Nat) : Bool := s.toNat.testBit j
theorem bit_cast (a j : Nat) : bit (a : Int) j = a.testBit j := by simp [bit]
theorem and_one (a : Nat) (j : Nat) : ((a / 2 ^ j) &&& 1 : Nat) = if a.testBit j then 1 else 0 := by
  rw [Nat.and_one_is_mod, Nat.testBit_eq_decide_div_mod_eq]
  rcases Nat.mod_two_eq_zero_or_one (a / 2 ^ j) with h | h <;> simp [h]
theorem has_and (s : Int) (j : Nat) (h0 : 0 ≤ s) (h1 : s < 9223372036854775808) (hj : j ≤ 64) : (Go.bits .and .i64 (shr .i64 s (j : Int)) 1 == 1) = bit s j := by
  obtain ⟨a, rfl⟩ := Int.eq_ofNat_of_zero_le h0
  have hl : a / 2 ^ j < 9223372036854775808 := Nat.lt_of_le_of_lt (Nat.div_le_self _ _) (by omega)
  rw [shr_nat a j hj, show (1 : Int) = ((1 : Nat) : Int) from rfl, and_i64 _ 1 hl (by decide), and_one, bit_cast]
  cases a.testBit j <;> rfl
theorem has_mod (s : Int) (j : Nat) (h0 : 0 ≤ s) (hj : j ≤ 64) : (Int.tmod (shr .i64 s (j : Int)) 2 == 1) = bit s j := by
  obtain ⟨a, rfl⟩ := Int.eq_ofNat_of_zero_le h0
  rw [shr_nat a j hj, bit_cast, Nat.testBit_eq_decide_div_mod_eq, Int.tmod_eq_emod_of_nonneg (Int.natCast_nonneg _)]
  rcases Nat.mod_two_eq_zero_or_one (a / 2 ^ j) with h | h
  · rw [show ((a / 2 ^ j : Nat) : Int) % 2 = 0 from by omega]; simp [h]
  · rw [show ((a / 2 ^ j : Nat) : Int) % 2 = 1 from by omega]; simp [h]
def setOf : Nat → (Nat → Bool) → Nat
  | 0, _ => 0
  | n + 1, q => setOf n q ||| (if q n then 2 ^ n else 0)
theorem testBit_setOf (n : Nat) (q : Nat → Bool) (j : Nat) : (setOf n q).testBit j = (decide (j < n) && q j) := by
  induction n with
  | zero => simp [setOf]
  | succ n ih =>
    unfold setOf
    rw [Nat.testBit_or, ih]
    by_cases hq : q n
    · rw [if_pos hq, Nat.testBit_two_pow]
      by_cases h : n = j
      · subst h; simp [hq]
      · have : (j < n + 1) ↔ j < n := by omega
        simp [h, this]
    · rw [if_neg hq]
      by_cases h : n = j
      · subst h; simp [hq]
      · have : (j < n + 1) ↔ j < n := by omega
        simp [this]
theorem setOf_lt (n : Nat) (q : Nat → Bool) : setOf n q < 2 ^ n := by
  induction n with
  | zero => simp [setOf]
  | succ n ih =>
    unfold setOf
    have h1 : setOf n q < 2 ^ (n + 1) := Nat.lt_of_lt_of_le ih (Nat.pow_le_pow_right (by decide) (by omega))
    refine Nat.or_lt_two_pow h1 ?_
    split
    · exact Nat.pow_lt_pow_right (by decide) (by omega)
    · exact Nat.two_pow_pos _
theorem lt62 {n s : Nat} (h : s < 2 ^ n) (hn : n ≤ 62) : s < 9223372036854775808 := Nat.lt_of_lt_of_le h (Nat.le_trans (Nat.pow_le_pow_right (by decide) hn) (by decide))
theorem setOf_62 (n : Nat) (q : Nat → Bool) (hn : n ≤ 62) : setOf n q < 9223372036854775808 := lt62 (setOf_lt n q) hn
end Go.Proofs.YtimjblnglhmakaaDoor.M
namespace Go.Proofs.YtimjblnglhmakaaDoor.M
open Go.RowKit Go.Proofs.YtimjblnglhmakaaDoorW.PrintMore Go.Proofs.YtimjblnglhmakaaDoorW.PrintLast Go.Proofs.YtimjblnglhmakaaDoorW.PrintWords
theorem Ev.up {α : Type} {r : α} (G : Nat → Nat → Option α) (n : Nat) (step : ∀ i, i < n → Ev (G (i + 1)) r → Ev (G i) r) (stop : Ev (G n) r) : Ev (G 0) r := by
  have key : ∀ m, m ≤ n → Ev (G (n - m)) r := by
    intro m
    induction m with
    | zero => intro _; exact stop
    | succ m ih =>
      intro hm
      have h := step (n - (m + 1)) (by omega)
      rw [show n - (m + 1) + 1 = n - m from by omega] at h
      exact h (ih (by omega))
  have := key n (Nat.le_refl _)
  rwa [Nat.sub_self] at this
theorem Ev.from {α : Type} {r : α} (G : Nat → Nat → Option α) (n i : Nat) (hi : i ≤ n) (step : ∀ i, i < n → Ev (G (i + 1)) r → Ev (G i) r) (stop : Ev (G n) r) : Ev (G i) r := by
  have h := Ev.up (fun j => G (i + j)) (n - i) (fun j hj h => step (i + j) (by omega) h) (by rw [show i + (n - i) = n from by omega]; exact stop)
  exact h
def allB (n : Nat) (p : Nat → Bool) : Bool := (List.range n).all p
theorem allB_iff {n : Nat} {p : Nat → Bool} : allB n p = true ↔ ∀ j, j < n → p j = true := by simp [allB]
theorem allB_false {n : Nat} {p : Nat → Bool} : allB n p = false ↔ ∃ j, j < n ∧ p j = false := by simp [allB]
theorem allB_congr {n : Nat} {p q : Nat → Bool} (h : ∀ j, j < n → p j = q j) : allB n p = allB n q := by
  rw [Bool.eq_iff_iff, allB_iff, allB_iff]
  exact ⟨fun H j hj => (h j hj) ▸ H j hj, fun H j hj => (h j hj) ▸ H j hj⟩
theorem least_false {n : Nat} {p : Nat → Bool} (h : ∃ j, j < n ∧ p j = false) : ∃ j, j < n ∧ p j = false ∧ ∀ i, i < j → p i = true := by
  obtain ⟨j, hj, hp⟩ := h
  induction j using Nat.strongRecOn with
  | _ j ih =>
    by_cases hl : ∃ i, i < j ∧ p i = false
    · obtain ⟨i, hi, hpi⟩ := hl
      exact ih i hi (by omega) hpi
    · refine ⟨j, hj, hp, fun i hi => ?_⟩
      cases hc : p i with
      | true => rfl
      | false => exact absurd ⟨i, hi, hc⟩ hl
theorem Ev.all (G : Nat → Nat → Option Bool) (n : Nat) (p : Nat → Bool) (yes : ∀ i r, i < n → p i = true → Ev (G (i + 1)) r → Ev (G i) r) (no : ∀ i, i < n → p i = false → Ev (G i) false) (stop : Ev (G n) true) :
    Ev (G 0) (allB n p) := by
  cases h : allB n p with
  | true =>
    have h := allB_iff.1 h
    exact Ev.up G n (fun i hi => yes i true hi (h i hi)) stop
  | false =>
    obtain ⟨j, hj, hp, hl⟩ := least_false (allB_false.1 h)
    exact Ev.up G j (fun i hi => yes i false (by omega) (hl i hi)) (no j hj hp)
theorem Ev.const {α : Type} {x : Option α} {r : α} (h : x = some r) : Ev (fun _ => x) r := ⟨0, fun _ _ => h⟩
theorem Ev.to {α : Type} {g : Nat → Option α} {r r' : α} (h : Ev g r) (e : r = r') : Ev g r' := e ▸ h
theorem rd_nat (l : List Int) (i : Nat) : rd l (i : Int) = l.getD i 0 := by simp [rd]
theorem rd_get (l : List Int) (i : Nat) (h : i < l.length) : rd l (i : Int) = l[i] := by simp [rd, h]
theorem next64 (i n : Nat) (h : i < n) (hn : n ≤ 140737488355328) : wrap64 ((i : Int) + 1) = ((i + 1 : Nat) : Int) := by unfold wrap64; omega
theorem list_ext_getD {l l' : List Int} (hl : l.length = l'.length) (h : ∀ i, i < l.length → l.getD i 0 = l'.getD i 0) : l = l' := by
  apply List.ext_getElem hl
  intro i h1 h2
  have := h i h1
  simpa [h1, h2] using this
def EvP {α : Type} (g : Nat → Option α) (φ : α → Prop) (S : Prop) : Prop := ∃ r, Ev g r ∧ (φ r ↔ S)
theorem EvP.now {α : Type} {φ : α → Prop} {S : Prop} {r : α} (h : φ r ↔ S) : EvP (fun _ => some r) φ S := ⟨r, Ev.now r, h⟩
theorem EvP.step {α : Type} {g f : Nat → Option α} {φ : α → Prop} {S : Prop} (h : ∀ k, g (k + 1) = f k) (k : EvP f φ S) : EvP g φ S := by
  obtain ⟨r, hr, e⟩ := k
  exact ⟨r, Ev.step h hr, e⟩
theorem EvP.iff {α : Type} {g : Nat → Option α} {φ : α → Prop} {S S' : Prop} (h : EvP g φ S) (e : S ↔ S') : EvP g φ S' := by
  obtain ⟨r, hr, h⟩ := h
  exact ⟨r, hr, h.trans e⟩
theorem EvP.loop {α : Type} {φ : α → Prop} (G : Nat → Nat → Option α) (n : Nat) (S : Nat → Prop) (Rest : Prop) (step : ∀ i T, i < n → EvP (G (i + 1)) φ T → EvP (G i) φ (S i ∧ T)) (stop : EvP (G n) φ Rest) : EvP (G 0) φ ((∀ i, i < n → S i) ∧ Rest) := by
  have key : ∀ m, m ≤ n → EvP (G (n - m)) φ ((∀ i, n - m ≤ i → i < n → S i) ∧ Rest) := by
    intro m
    induction m with
    | zero => intro _; exact EvP.iff stop ⟨fun h => ⟨fun i h1 h2 => by omega, h⟩, fun h => h.2⟩
    | succ m ih =>
      intro hm
      have h := ih (by omega)
      rw [show n - m = n - (m + 1) + 1 by omega] at h
      refine EvP.iff (step (n - (m + 1)) _ (by omega) h) ?_
      constructor
      · rintro ⟨h1, h2, h3⟩
        refine ⟨fun i hi hn => ?_, h3⟩
        by_cases e : i = n - (m + 1)
        · rw [e]; exact h1
        · exact h2 i (by omega) hn
      · rintro ⟨h1, h2⟩
        exact ⟨h1 _ (Nat.le_refl _) (by omega), fun i hi hn => h1 i (by omega) hn, h2⟩
  have := key n (Nat.le_refl _)
  rw [Nat.sub_self] at this
  exact EvP.iff this ⟨fun ⟨h, r⟩ => ⟨fun i hi => h i (Nat.zero_le _) hi, r⟩, fun ⟨h, r⟩ => ⟨fun i _ hi => h i hi, r⟩⟩
end Go.Proofs.YtimjblnglhmakaaDoor.M
namespace Go.Proofs.YtimjblnglhmakaaDoor.M
open Go.RowKit Go.Proofs.YtimjblnglhmakaaDoorW.PrintMore Go.Proofs.YtimjblnglhmakaaDoorW.PrintLast Go.Proofs.YtimjblnglhmakaaDoorW.PrintWords Go.Proofs.YtimjblnglhmakaaDoor.P
def elems (n s : Nat) : List Nat := (List.range n).filter fun j => s.testBit j
theorem mem_elems {n s j : Nat} : j ∈ elems n s ↔ j < n ∧ s.testBit j = true := by simp [elems]
theorem elems_zero (n : Nat) : elems n 0 = [] := by simp [elems]
def ints (l : List Nat) : List Int := l.map fun (j : Nat) => (j : Int)
theorem ints_length (l : List Nat) : (ints l).length = l.length := by simp [ints]
theorem elems_length_le (n s : Nat) : (elems n s).length ≤ n := by
  unfold elems
  exact Nat.le_trans (List.length_filter_le _ _) (by simp)
theorem filter_range_split (n c : Nat) (h : c < n) (p : Nat → Bool) : (List.range n).filter p = (List.range c).filter p ++ ((if p c then [c] else []) ++ (List.range' (c + 1) (n - (c + 1))).filter p) := by
  have e : List.range n = List.range c ++ ([c] ++ List.range' (c + 1) (n - (c + 1))) := by
    rw [List.range_eq_range', List.range_eq_range']
    have h1 : n = c + (1 + (n - (c + 1))) := by omega
    have e1 : List.range' 0 n = List.range' 0 c ++ List.range' c (1 + (n - (c + 1))) := by
      have := List.range'_append_1 (s := 0) (m := c) (n := 1 + (n - (c + 1)))
      rw [Nat.zero_add] at this
      rw [this, ← h1]
    rw [e1, Nat.add_comm 1, List.range'_succ]
    rfl
  rw [e, List.filter_append, List.filter_append]
  congr 1
  cases hp : p c <;> simp [hp]
theorem elems_least (n s c m : Nat) (hs : s = 2 ^ c * (2 * m + 1)) (hn : s < 2 ^ n) : elems n s = c :: elems n (s &&& (s - 1)) := by
  have hp : 0 < 2 ^ c := Nat.two_pow_pos c
  have e1 : s - 1 = 2 ^ (c + 1) * m + (2 ^ c - 1) := by
    have a1 : 2 ^ c * (2 * m + 1) = 2 ^ (c + 1) * m + 2 ^ c := by rw [Nat.pow_succ, Nat.mul_add, Nat.mul_assoc]; simp
    omega
  have hb : ∀ j, s.testBit j = if j < c then false else if j = c then true else m.testBit (j - (c + 1)) := by
    intro j
    rw [hs, Nat.mul_comm, Nat.testBit_mul_two_pow]
    by_cases h1 : j < c
    · rw [if_pos h1]; simp; omega
    · rw [if_neg h1]
      by_cases h2 : j = c
      · subst h2; simp
      · rw [if_neg h2]
        obtain ⟨d, rfl⟩ : ∃ d, j = c + (d + 1) := ⟨j - c - 1, by omega⟩
        rw [show c + (d + 1) - c = d + 1 from by omega, show c + (d + 1) - (c + 1) = d from by omega, Nat.testBit_succ, show (2 * m + 1) / 2 = m from by omega]
        simp
  have hb1 : ∀ j, (s - 1).testBit j = if j < c then true else if j = c then false else m.testBit (j - (c + 1)) := by
    intro j
    rw [e1, Nat.testBit_two_pow_mul_add m (by have : 2 ^ c < 2 ^ (c + 1) := Nat.pow_lt_pow_right (by decide) (by omega); omega)]
    by_cases h1 : j < c
    · rw [if_pos (by omega), if_pos h1, Nat.testBit_two_pow_sub_one]; simp [h1]
    · rw [if_neg h1]
      by_cases h2 : j = c
      · subst h2; rw [if_pos (by omega), if_pos rfl, Nat.testBit_two_pow_sub_one]; simp
      · rw [if_neg (by omega), if_neg h2]
  have hb2 : ∀ j, (s &&& (s - 1)).testBit j = if j ≤ c then false else s.testBit j := by
    intro j
    rw [Nat.testBit_and, hb, hb1]
    by_cases h1 : j < c
    · simp [h1, Nat.le_of_lt h1]
    · by_cases h2 : j = c
      · simp [h2]
      · rw [if_neg h1, if_neg h1, if_neg h2, if_neg h2, if_neg (by omega)]; simp
  have hc : c < n := by
    apply Nat.lt_of_not_le
    intro hle
    have h1 : 2 ^ n ≤ 2 ^ c := Nat.pow_le_pow_right (by decide) hle
    have h2 : 2 ^ c ≤ s := by rw [hs]; exact Nat.le_mul_of_pos_right _ (by omega)
    omega
  unfold elems
  rw [filter_range_split n c hc, filter_range_split n c hc (fun j => (s &&& (s - 1)).testBit j)]
  have z1 : (List.range c).filter (fun j => s.testBit j) = [] := by
    rw [List.filter_eq_nil_iff]; intro j hj; simp at hj; rw [hb, if_pos hj]; simp
  have z2 : (List.range c).filter (fun j => (s &&& (s - 1)).testBit j) = [] := by
    rw [List.filter_eq_nil_iff]; intro j hj; simp at hj; rw [hb2, if_pos (by omega)]; simp
  have z3 : (List.range' (c + 1) (n - (c + 1))).filter (fun j => s.testBit j) = (List.range' (c + 1) (n - (c + 1))).filter (fun j => (s &&& (s - 1)).testBit j) := by
    apply List.filter_congr
    intro j hj
    rw [List.mem_range'] at hj
    obtain ⟨i, hi, rfl⟩ := hj
    rw [hb2, if_neg (by omega)]
  have y1 : s.testBit c = true := by rw [hb, if_neg (by omega), if_pos rfl]
  have y2 : (s &&& (s - 1)).testBit c = false := by rw [hb2, if_pos (Nat.le_refl _)]
  rw [z1, z2, z3, if_pos y1, y2]
  rfl
theorem and_pred_lt (s : Nat) (h : s ≠ 0) : s &&& (s - 1) < s := Nat.lt_of_le_of_lt Nat.and_le_right (by omega)
theorem u64_small (n : Nat) (h : n < 18446744073709551616) : IntKind.u64.wrap (n : Int) = (n : Int) := by
  simp [IntKind.wrap, IntKind.signed, IntKind.bits]
  omega
theorem members_ev (n : Nat) (hn : n ≤ 62) (s : Nat) (hs : s < 2 ^ n) : Ev (fun k => impl_members.f k (s : Int)) (ints (elems n s)) := by
  have key : ∀ d s, s ≤ d → s < 2 ^ n → ∀ acc : List Int, acc.length + (elems n s).length ≤ 64 → Ev (fun k => impl_members.l0 k (s : Int) acc) (acc ++ ints (elems n s)) := by
    intro d
    induction d with
    | zero =>
      intro s h0 _ acc _
      obtain rfl : s = 0 := by omega
      refine Ev.step (fun _ => rfl) ?_
      simp only [impl_members.l0, Int.natCast_zero, if_true]
      rw [elems_zero]
      simpa [ints] using Ev.now acc
    | succ d ih =>
      intro s h0 hs acc ha
      by_cases hz : s = 0
      · exact ih s (by omega) hs acc ha
      · have hs2 := lt62 hs hn
        obtain ⟨m, hm, hk⟩ := Lib.ctzFrom_spec 64 s (by omega) (by omega)
        have he := elems_least n s _ m hm hs
        have hl : (elems n s).length = (elems n (s &&& (s - 1))).length + 1 := by rw [he]; rfl
        refine Ev.step (fun _ => rfl) ?_
        have hc : Lib.ctz 64 s = Lib.ctzFrom 64 s := by unfold Lib.ctz; rw [if_neg hz]
        have e1 : bits_TrailingZeros.f (IntKind.u64.wrap (s : Int)) = some ((Lib.ctzFrom 64 s : Nat) : Int) := by
          rw [u64_small s (by omega)]
          unfold bits_TrailingZeros.f bits_TrailingZeros64.f
          rw [if_pos ⟨by omega, by omega⟩, Int.toNat_natCast, hc]
          rfl
        have e2 : Go.bits .and .i64 (s : Int) (wrap64 ((s : Int) - 1)) = ((s &&& (s - 1) : Nat) : Int) := by
          rw [show wrap64 ((s : Int) - 1) = ((s - 1 : Nat) : Int) from by unfold wrap64; omega]
          exact and_i64 _ _ (by omega) (by omega)
        simp only [impl_members.l0, if_neg (show ¬ (s : Int) = 0 by omega), e1, Option.bind_some, if_pos (show acc.length < 17592186044416 by omega), e2]
        have := ih (s &&& (s - 1)) (by have := and_pred_lt s hz; omega) (Nat.lt_of_le_of_lt Nat.and_le_left hs) (acc ++ [((Lib.ctzFrom 64 s : Nat) : Int)]) (by simp; omega)
        refine Ev.to this ?_
        rw [he]
        simp [ints]
  have h := key s s (Nat.le_refl _) hs [] (by have := elems_length_le n s; simp; omega)
  exact h
theorem orHas_eq (s : Nat) (j : Nat) (hj : j ≤ 64) : spec_orHas.f (s : Int) (j : Int) = some (s.testBit j) := by
  unfold spec_orHas.f
  rw [if_pos (by omega), has_mod _ _ (by omega) hj, bit_cast]
theorem orList_ev (n : Nat) (hn : n ≤ 62) (s : Nat) (hs : s < 2 ^ n) : Ev (fun k => spec_orList.f k (s : Int)) (ints (elems n s)) := by
  -- up to the place behind the last element
  obtain ⟨t, ht, hlt, hgt⟩ : ∃ t, t ≤ n ∧ s / 2 ^ t = 0 ∧ ∀ i, i < t → 0 < s / 2 ^ i := by
    refine ⟨(if s = 0 then 0 else Nat.log2 s + 1), ?_, ?_, ?_⟩
    · split
      · omega
      · rename_i h
        have := (Nat.log2_lt h (k := n)).2 hs
        omega
    · split
      · rename_i h; simp [h]
      · exact Nat.div_eq_of_lt (Nat.lt_log2_self)
    · intro i hi
      split at hi
      · omega
      · rename_i h
        apply Nat.div_pos _ (Nat.two_pow_pos _)
        exact Nat.le_trans (Nat.pow_le_pow_right (by decide) (by omega : i ≤ Nat.log2 s)) (Nat.log2_self_le h)
  have hs2 := lt62 hs hn
  have hsplit : elems n s = elems t s := by
    unfold elems
    have e : List.range n = List.range t ++ List.range' t (n - t) := by
      rw [List.range_eq_range', List.range_eq_range']
      have := List.range'_append_1 (s := 0) (m := t) (n := n - t)
      rw [Nat.zero_add] at this
      rw [this]
      congr 1
      omega
    rw [e, List.filter_append]
    have z : (List.range' t (n - t)).filter (fun j => s.testBit j) = [] := by
      rw [List.filter_eq_nil_iff]
      intro j hj
      rw [List.mem_range'] at hj
      obtain ⟨i, hi, rfl⟩ := hj
      have h1 : s < 2 ^ t := by
        rcases Nat.div_eq_zero_iff.1 hlt with h | h
        · exact absurd h (Nat.ne_of_gt (Nat.two_pow_pos _))
        · exact h
      rw [Nat.testBit_lt_two_pow (Nat.lt_of_lt_of_le h1 (Nat.pow_le_pow_right (by decide) (by omega)))]
      simp
    rw [z, List.append_nil]
  rw [hsplit]
  unfold spec_orList.f
  refine Ev.up (fun i k => spec_orList.l0 k (s : Int) (ints (elems i s)) (i : Int)) t ?_ ?_
  · intro i hi h
    refine Ev.step (fun _ => rfl) ?_
    have e1 : shr .i64 (s : Int) (i : Int) > 0 := by rw [shr_nat s i (by omega)]; have := hgt i hi; omega
    have hlen := elems_length_le i s
    have e2 : elems (i + 1) s = elems i s ++ (if s.testBit i then [i] else []) := by
      unfold elems
      rw [List.range_succ, List.filter_append]
      congr 1
      cases hb2 : s.testBit i <;> simp [hb2]
    simp only [spec_orList.l0, if_pos (show (0 : Int) ≤ (i : Int) by omega), if_pos e1, orHas_eq s i (by omega), Option.bind_some, next64 i t hi (by omega)]
    rw [e2] at h
    cases hb : s.testBit i with
    | true =>
      simp only [if_true, ints_length, if_pos (show (elems i s).length < 17592186044416 by omega)]
      rw [hb] at h
      simpa [ints] using h
    | false =>
      rw [hb] at h
      simpa [ints] using h
  · refine Ev.step (fun _ => rfl) ?_
    have e1 : ¬ shr .i64 (s : Int) (t : Int) > 0 := by rw [shr_nat s t (by omega)]; omega
    simp only [spec_orList.l0, if_pos (show (0 : Int) ≤ (t : Int) by omega), if_neg e1]
    exact Ev.now _
end Go.Proofs.YtimjblnglhmakaaDoor.M
namespace Go.Proofs.YtimjblnglhmakaaDoor.M
open Go.RowKit Go.Proofs.YtimjblnglhmakaaDoorW.PrintMore Go.Proofs.YtimjblnglhmakaaDoorW.PrintLast Go.Proofs.YtimjblnglhmakaaDoorW.PrintWords Go.Proofs.YtimjblnglhmakaaDoor.P
def isRel (n : Int) (l : List Int) : Bool := decide (0 ≤ n ∧ n ≤ 10 ∧ (l.length : Int) = n ∧ ∀ x ∈ l, 0 ≤ x ∧ x ≤ ((2 ^ n.toNat : Nat) : Int) - 1)
def row (l : List Int) (i : Nat) : Nat := (l.getD i 0).toNat
def B (l : List Int) (i j : Nat) : Bool := (row l i).testBit j
structure Rel (n : Nat) (l : List Int) : Prop where
  le : n ≤ 10
  len : l.length = n
  mem : ∀ x ∈ l, 0 ≤ x ∧ x ≤ ((2 ^ n : Nat) : Int) - 1
theorem isRel_iff {n : Int} {l : List Int} : isRel n l = true ↔ ∃ m : Nat, n = m ∧ Rel m l := by
  unfold isRel
  rw [decide_eq_true_iff]
  constructor
  · rintro ⟨h0, h1, h2, h3⟩
    obtain ⟨m, rfl⟩ := Int.eq_ofNat_of_zero_le h0
    exact ⟨m, rfl, by omega, by omega, by simpa using h3⟩
  · rintro ⟨m, rfl, h⟩
    refine ⟨by omega, by have := h.le; omega, by have := h.len; omega, by simpa using h.mem⟩
section
variable {n : Nat} {l : List Int}
theorem Rel.getD (h : Rel n l) (i : Nat) : l.getD i 0 = ((row l i : Nat) : Int) := by
  unfold row
  by_cases hi : i < l.length
  · have := (h.mem l[i] (List.getElem_mem hi)).1
    rw [show l.getD i 0 = l[i] by simp [hi]]
    omega
  · rw [show l.getD i 0 = 0 by simp [Nat.not_lt.1 hi]]
    rfl
theorem Rel.row_lt (h : Rel n l) (i : Nat) : row l i < 2 ^ n := by
  have hp : 0 < 2 ^ n := Nat.two_pow_pos n
  by_cases hi : i < l.length
  · have h1 := h.mem l[i] (List.getElem_mem hi)
    have h2 := h.getD i
    rw [show l.getD i 0 = l[i] by simp [hi]] at h2
    omega
  · unfold row
    rw [show l.getD i 0 = 0 by simp [Nat.not_lt.1 hi]]
    simpa using hp
theorem Rel.row_62 (h : Rel n l) (i : Nat) : row l i < 9223372036854775808 := lt62 (h.row_lt i) (by have := h.le; omega)
theorem Rel.B_lt (h : Rel n l) {i j : Nat} (hb : B l i j = true) : j < n := by
  apply Nat.lt_of_not_le
  intro hle
  unfold B at hb
  rw [Nat.testBit_lt_two_pow (Nat.lt_of_lt_of_le (h.row_lt i) (Nat.pow_le_pow_right (by decide) hle))] at hb
  cases hb
theorem Rel.B_lt' (h : Rel n l) {i j : Nat} (hb : B l i j = true) : i < n := by
  apply Nat.lt_of_not_le
  intro hle
  unfold B row at hb
  rw [show l.getD i 0 = 0 by simp [h.len, hle]] at hb
  simp at hb
theorem Rel.rd (h : Rel n l) (i : Nat) : rd l (i : Int) = ((row l i : Nat) : Int) := by rw [rd_nat, h.getD]
theorem Rel.bit (h : Rel n l) (i j : Nat) : M.bit (Go.Proofs.YtimjblnglhmakaaDoorW.PrintWords.rd l (i : Int)) j = B l i j := by rw [h.rd, bit_cast]; rfl
theorem Rel.ext {l' : List Int} (h : Rel n l) (h' : Rel n l') (hb : ∀ i j, i < n → j < n → B l i j = B l' i j) : l = l' := by
  apply list_ext_getD (by rw [h.len, h'.len])
  intro i hi
  rw [h.getD, h'.getD]
  congr 1
  apply Nat.eq_of_testBit_eq
  intro j
  by_cases hj : j < n
  · exact hb i j (by rw [← h.len]; exact hi) hj
  · have e1 : B l i j = false := by
      cases hc : B l i j with
      | false => rfl
      | true => exact absurd (h.B_lt hc) hj
    have e2 : B l' i j = false := by
      cases hc : B l' i j with
      | false => rfl
      | true => exact absurd (h'.B_lt hc) hj
    exact e1.trans e2.symm
end
def relL (n : Nat) (p : Nat → Nat → Bool) : List Int := (List.range n).map fun i => ((setOf n (p i) : Nat) : Int)
theorem relL_length (n : Nat) (p : Nat → Nat → Bool) : (relL n p).length = n := by simp [relL]
theorem relL_row (n : Nat) (p : Nat → Nat → Bool) (i : Nat) (h : i < n) : row (relL n p) i = setOf n (p i) := by
  simp [row, relL, h]
theorem relL_B (n : Nat) (p : Nat → Nat → Bool) (i j : Nat) : B (relL n p) i j = (decide (i < n) && (decide (j < n) && p i j)) := by
  unfold B
  by_cases h : i < n
  · rw [relL_row n p i h, testBit_setOf]; simp [h]
  · have : row (relL n p) i = 0 := by simp [row, relL, h]
    rw [this]; simp [h]
theorem relL_rel (n : Nat) (hn : n ≤ 10) (p : Nat → Nat → Bool) : Rel n (relL n p) where
  le := hn
  len := relL_length n p
  mem := by
    intro x hx
    simp only [relL, List.mem_map, List.mem_range] at hx
    obtain ⟨i, _, rfl⟩ := hx
    have := setOf_lt n (p i)
    omega
theorem within_eq (a b c : Int) : impl_within.f a b c = some (decide (b ≤ a ∧ a ≤ c)) := by
  unfold impl_within.f
  by_cases h : a ≥ b
  · rw [if_pos h]; simp [h]
  · rw [if_neg h]; simp; omega
theorem l1In_eq (a b c : Int) : spec_l1In.f a b c = some (decide (b ≤ a ∧ a ≤ c)) := by
  unfold spec_l1In.f
  by_cases h : a ≥ b
  · rw [if_pos h]; simp [h]
  · rw [if_neg h]; simp; omega
def allIn (l : List Int) (a b : Int) : Bool := decide (∀ x ∈ l, a ≤ x ∧ x ≤ b)
theorem allIn_eq (l : List Int) (a b : Int) : allIn l a b = allB l.length fun i => decide (a ≤ l.getD i 0 ∧ l.getD i 0 ≤ b) := by
  rw [Bool.eq_iff_iff, allB_iff]
  simp only [allIn, decide_eq_true_iff]
  constructor
  · intro h i hi
    have := h l[i] (List.getElem_mem hi)
    simpa [hi] using this
  · intro h x hx
    obtain ⟨i, hi, rfl⟩ := List.getElem_of_mem hx
    have := h i hi
    simpa [hi] using this
theorem allWithin_ev (l : List Int) (a b : Int) (hl : l.length ≤ 140737488355328) : Ev (fun k => impl_allWithin.f k l a b) (allIn l a b) := by
  rw [allIn_eq]
  unfold impl_allWithin.f
  refine Ev.all (fun i k => impl_allWithin.l0 k a b l (l.length : Int) (i : Int)) l.length _ ?_ ?_ ?_
  · intro i r hi hp h
    refine Ev.step (fun _ => rfl) ?_
    rw [decide_eq_true_iff] at hp
    simp only [impl_allWithin.l0, if_pos (show (i : Int) < (l.length : Int) by omega), if_pos (show (0 : Int) ≤ (i : Int) by omega), within_eq, rd_nat, Option.bind_some, decide_eq_true hp, if_true, next64 i l.length hi hl]
    exact h
  · intro i hi hp
    refine Ev.step (fun _ => rfl) ?_
    rw [decide_eq_false_iff_not] at hp
    simp only [impl_allWithin.l0, if_pos (show (i : Int) < (l.length : Int) by omega), if_pos (show (0 : Int) ≤ (i : Int) by omega), within_eq, rd_nat, Option.bind_some, decide_eq_false hp, Bool.false_eq_true, if_false]
    exact Ev.now _
  · refine Ev.step (fun _ => rfl) ?_
    simp only [impl_allWithin.l0, if_neg (show ¬ (l.length : Int) < (l.length : Int) by omega)]
    exact Ev.now _
theorem l1All_ev (l : List Int) (a b : Int) (hl : l.length ≤ 140737488355328) : Ev (fun k => spec_l1All.f k l a b) (allIn l a b) := by
  rw [allIn_eq]
  unfold spec_l1All.f
  refine Ev.all (fun i k => spec_l1All.l0 k a b l (l.length : Int) (i : Int)) l.length _ ?_ ?_ ?_
  · intro i r hi hp h
    refine Ev.step (fun _ => rfl) ?_
    rw [decide_eq_true_iff] at hp
    simp only [spec_l1All.l0, if_pos (show (i : Int) < (l.length : Int) by omega), if_pos (show (0 : Int) ≤ (i : Int) by omega), l1In_eq, rd_nat, Option.bind_some, decide_eq_true hp, if_true, next64 i l.length hi hl]
    exact h
  · intro i hi hp
    refine Ev.step (fun _ => rfl) ?_
    rw [decide_eq_false_iff_not] at hp
    simp only [spec_l1All.l0, if_pos (show (i : Int) < (l.length : Int) by omega), if_pos (show (0 : Int) ≤ (i : Int) by omega), l1In_eq, rd_nat, Option.bind_some, decide_eq_false hp, Bool.false_eq_true, if_false]
    exact Ev.now _
  · refine Ev.step (fun _ => rfl) ?_
    simp only [spec_l1All.l0, if_neg (show ¬ (l.length : Int) < (l.length : Int) by omega)]
    exact Ev.now _
theorem pow_of (n : Int) (h0 : 0 ≤ n) (h1 : n ≤ 10) : wrap64 (shl .i64 1 n - 1) = ((2 ^ n.toNat : Nat) : Int) - 1 := by
  obtain ⟨m, rfl⟩ := Int.eq_ofNat_of_zero_le h0
  rw [shl1 m (by omega), Int.toNat_natCast]
  have h2 : (2 : Nat) ^ m ≤ 2 ^ 10 := Nat.pow_le_pow_right (by decide) (by omega)
  have h3 : 0 < (2 : Nat) ^ m := Nat.two_pow_pos m
  exact wrap64_id _ (by omega) (by omega)
theorem isRel_parts (n : Int) (l : List Int) : isRel n l = (decide (0 ≤ n ∧ n ≤ 10) && (decide ((l.length : Int) = n) && allIn l 0 (((2 ^ n.toNat : Nat) : Int) - 1))) := by
  rw [Bool.eq_iff_iff]
  simp only [isRel, allIn, Bool.and_eq_true, decide_eq_true_iff]
  exact ⟨fun ⟨a, b, c, d⟩ => ⟨⟨a, b⟩, c, d⟩, fun ⟨⟨a, b⟩, c, d⟩ => ⟨a, b, c, d⟩⟩
theorem IsRelation_ev (n : Int) (l : List Int) (hl : l.length ≤ 140737488355328) : Ev (fun k => impl_IsRelation.f k n l) (isRel n l) := by
  unfold impl_IsRelation.f
  simp only [within_eq, Option.bind_some]
  rw [isRel_parts]
  by_cases h1 : 0 ≤ n ∧ n ≤ 10
  · by_cases h2 : (l.length : Int) = n
    · simp only [decide_eq_true h1, if_true, if_pos h2, if_pos h1.1, pow_of n h1.1 h1.2, decide_eq_true h2, Bool.true_and]
      exact Ev.bind (allWithin_ev l _ _ hl) (Ev.now _)
    · simp only [decide_eq_true h1, if_true, if_neg h2, decide_eq_false h2, Bool.false_and, Bool.and_false]
      exact Ev.now _
  · simp only [decide_eq_false h1, Bool.false_eq_true, if_false, Bool.false_and]
    exact Ev.now _
theorem orRelation_ev (n : Int) (l : List Int) (hl : l.length ≤ 140737488355328) : Ev (fun k => spec_orRelation.f k n l) (isRel n l) := by
  unfold spec_orRelation.f
  simp only [l1In_eq, Option.bind_some]
  rw [isRel_parts]
  by_cases h1 : 0 ≤ n ∧ n ≤ 10
  · by_cases h2 : (l.length : Int) = n
    · simp only [decide_eq_true h1, if_true, if_pos h2, if_pos h1.1, pow_of n h1.1 h1.2, decide_eq_true h2, Bool.true_and]
      exact Ev.bind (l1All_ev l _ _ hl) (Ev.now _)
    · simp only [decide_eq_true h1, if_true, if_neg h2, decide_eq_false h2, Bool.false_and, Bool.and_false]
      exact Ev.now _
  · simp only [decide_eq_false h1, Bool.false_eq_true, if_false, Bool.false_and]
    exact Ev.now _
def closedAt (n : Nat) (l : List Int) (i : Nat) : Bool := allB (elems n (row l i)).length fun q => diff (row l ((elems n (row l i)).getD q 0)) (row l i) == 0
def isOrd (n : Int) (l : List Int) : Bool := isRel n l && allB l.length fun i => !B l i i && closedAt l.length l i
theorem better_eq {n : Nat} {l : List Int} (h : Rel n l) (m : Int) (i j : Nat) (hi : i < n) (hj : j ≤ 62) : impl_Order_better.f m l (i : Int) (j : Int) = some (B l i j) := by
  unfold impl_Order_better.f
  rw [if_pos (by omega), if_pos (by rw [h.len]; omega), if_pos (by omega), has_and _ _ (by rw [h.rd]; omega) (by rw [h.rd]; have := h.row_62 i; omega) (by omega), h.bit]
theorem diff_zero (a b : Nat) : (diff a b = 0) ↔ ∀ j, a.testBit j = true → b.testBit j = true := by
  constructor
  · intro h j hj
    have := testBit_diff a b j
    rw [h, hj] at this
    simpa using this.symm
  · intro h
    apply Nat.eq_of_testBit_eq
    intro j
    rw [testBit_diff]
    cases hj : a.testBit j with
    | false => simp
    | true => simp [h j hj]
theorem ints_getD (l : List Nat) (q : Nat) (h : q < l.length) : (ints l).getD q 0 = ((l.getD q 0 : Nat) : Int) := by simp [ints, h]
theorem closed_iff {n : Nat} {l : List Int} (h : Rel n l) (i : Nat) : closedAt n l i = true ↔ ∀ j k, B l i j = true → B l j k = true → B l i k = true := by
  unfold closedAt
  rw [allB_iff]
  constructor
  · intro H j k hij hjk
    have hm : j ∈ elems n (row l i) := mem_elems.2 ⟨h.B_lt hij, hij⟩
    obtain ⟨q, hq, e⟩ := List.getElem_of_mem hm
    have := H q hq
    rw [show (elems n (row l i)).getD q 0 = j by simp [hq, e], beq_iff_eq, diff_zero] at this
    exact this k hjk
  · intro H q hq
    rw [beq_iff_eq, diff_zero]
    intro k hk
    have hm : (elems n (row l i)).getD q 0 ∈ elems n (row l i) := by simp [hq]
    exact H _ k (mem_elems.1 hm).2 hk
structure Ord (n : Nat) (l : List Int) : Prop extends Rel n l where
  irr : ∀ i, B l i i = false
  trans : ∀ i j k, B l i j = true → B l j k = true → B l i k = true
theorem isOrd_iff {n : Int} {l : List Int} : isOrd n l = true ↔ ∃ m : Nat, n = m ∧ Ord m l := by
  unfold isOrd
  rw [Bool.and_eq_true, isRel_iff, allB_iff]
  constructor
  · rintro ⟨⟨m, rfl, h⟩, H⟩
    rw [h.len] at H
    refine ⟨m, rfl, h, fun i => ?_, fun i j k hij hjk => ?_⟩
    · cases hc : B l i i with
      | false => rfl
      | true =>
        have := H i (h.B_lt hc)
        rw [hc] at this
        simp at this
    · have := H i (h.B_lt' hij)
      rw [Bool.and_eq_true] at this
      exact (closed_iff h i).1 this.2 j k hij hjk
  · rintro ⟨m, rfl, h⟩
    refine ⟨⟨m, rfl, h.toRel⟩, fun i _ => ?_⟩
    rw [h.irr i, h.len, (closed_iff h.toRel i).2 (h.trans i)]
    rfl
theorem IsOrder_ev (n : Int) (l : List Int) (hl : l.length ≤ 140737488355328) : Ev (fun k => impl_IsOrder.f k n l) (isOrd n l) := by
  unfold impl_IsOrder.f isOrd
  refine Ev.bind (IsRelation_ev n l hl) ?_
  cases hr : isRel n l with
  | false => simp only [Bool.false_eq_true, if_false, Bool.false_and]; exact Ev.now _
  | true =>
    obtain ⟨m, rfl, h⟩ := isRel_iff.1 hr
    have hlen := h.len
    have h10 := h.le
    simp only [if_true, Bool.true_and]
    refine Ev.all (fun i k => impl_IsOrder.l0 k l (l.length : Int) (i : Int) (m : Int) l) l.length _ ?_ ?_ ?_
    · intro i r hi hp hrest
      rw [Bool.and_eq_true] at hp
      have hB : B l i i = false := by simpa using hp.1
      refine Ev.step (fun _ => rfl) ?_
      simp only [impl_IsOrder.l0, if_pos (show (i : Int) < (l.length : Int) by omega), if_pos (show (0 : Int) ≤ (i : Int) by omega), better_eq h _ i i (by omega) (by omega), Option.bind_some, hB, Bool.false_eq_true, if_false, h.rd]
      refine Ev.bind (members_ev m (by omega) (row l i) (h.row_lt i)) ?_
      have hE := elems_length_le m (row l i)
      rw [ints_length]
      refine Ev.up (fun q k => impl_IsOrder.l1 k ((row l i : Nat) : Int) l (l.length : Int) (i : Int) (ints (elems m (row l i))) ((elems m (row l i)).length : Int) (q : Int) (m : Int) l) (elems m (row l i)).length ?_ ?_
      · intro q hq hn
        refine Ev.step (fun _ => rfl) ?_
        have hmem : (elems m (row l i)).getD q 0 ∈ elems m (row l i) := by simp [hq]
        have hlt := (mem_elems.1 hmem).1
        have e0 : rd (ints (elems m (row l i))) (q : Int) = (((elems m (row l i)).getD q 0 : Nat) : Int) := by rw [rd_nat, ints_getD _ _ hq]
        have hd : diff (row l ((elems m (row l i)).getD q 0)) (row l i) = 0 := by
          have hc := hp.2
          unfold closedAt at hc
          rw [allB_iff, hlen] at hc
          exact beq_iff_eq.1 (hc q hq)
        simp only [impl_IsOrder.l1, if_pos (show (q : Int) < ((elems m (row l i)).length : Int) by omega), if_pos (show (0 : Int) ≤ (q : Int) by omega), ints_length, e0, if_pos (show (0 : Int) ≤ (((elems m (row l i)).getD q 0 : Nat) : Int) by omega), if_pos (show (((elems m (row l i)).getD q 0 : Nat) : Int) < (l.length : Int) by omega), h.rd, andNot_i64 _ _ (h.row_62 _) (h.row_62 _), hd, Int.natCast_zero, if_true, next64 q _ hq (by omega)]
        exact hn
      · refine Ev.step (fun _ => rfl) ?_
        simp only [impl_IsOrder.l1, if_neg (show ¬ ((elems m (row l i)).length : Int) < ((elems m (row l i)).length : Int) by omega), next64 i l.length hi (by omega)]
        exact hrest
    · intro i hi hp
      refine Ev.step (fun _ => rfl) ?_
      simp only [impl_IsOrder.l0, if_pos (show (i : Int) < (l.length : Int) by omega), if_pos (show (0 : Int) ≤ (i : Int) by omega), better_eq h _ i i (by omega) (by omega), Option.bind_some]
      cases hB : B l i i with
      | true => simp only [if_true]; exact Ev.now _
      | false =>
        rw [hB] at hp
        have hc : closedAt l.length l i = false := by simpa using hp
        unfold closedAt at hc
        rw [hlen] at hc
        obtain ⟨j, hj, hbad, hless⟩ := least_false (allB_false.1 hc)
        simp only [Bool.false_eq_true, if_false, h.rd]
        refine Ev.bind (members_ev m (by omega) (row l i) (h.row_lt i)) ?_
        have hE := elems_length_le m (row l i)
        rw [ints_length]
        refine Ev.up (fun q k => impl_IsOrder.l1 k ((row l i : Nat) : Int) l (l.length : Int) (i : Int) (ints (elems m (row l i))) ((elems m (row l i)).length : Int) (q : Int) (m : Int) l) j ?_ ?_
        · intro q hq hn
          refine Ev.step (fun _ => rfl) ?_
          have hmem : (elems m (row l i)).getD q 0 ∈ elems m (row l i) := by simp [show q < (elems m (row l i)).length by omega]
          have hlt := (mem_elems.1 hmem).1
          have e0 : rd (ints (elems m (row l i))) (q : Int) = (((elems m (row l i)).getD q 0 : Nat) : Int) := by rw [rd_nat, ints_getD _ _ (by omega)]
          have hd : diff (row l ((elems m (row l i)).getD q 0)) (row l i) = 0 := beq_iff_eq.1 (hless q hq)
          simp only [impl_IsOrder.l1, if_pos (show (q : Int) < ((elems m (row l i)).length : Int) by omega), if_pos (show (0 : Int) ≤ (q : Int) by omega), ints_length, e0, if_pos (show (0 : Int) ≤ (((elems m (row l i)).getD q 0 : Nat) : Int) by omega), if_pos (show (((elems m (row l i)).getD q 0 : Nat) : Int) < (l.length : Int) by omega), h.rd, andNot_i64 _ _ (h.row_62 _) (h.row_62 _), hd, Int.natCast_zero, if_true, next64 q _ (show q < (elems m (row l i)).length by omega) (by omega)]
          exact hn
        · refine Ev.step (fun _ => rfl) ?_
          have hmem : (elems m (row l i)).getD j 0 ∈ elems m (row l i) := by simp [hj]
          have hlt := (mem_elems.1 hmem).1
          have e0 : rd (ints (elems m (row l i))) (j : Int) = (((elems m (row l i)).getD j 0 : Nat) : Int) := by rw [rd_nat, ints_getD _ _ (by omega)]
          have hd : ¬ ((diff (row l ((elems m (row l i)).getD j 0)) (row l i) : Nat) : Int) = 0 := by
            have := beq_eq_false_iff_ne.1 hbad
            omega
          simp only [impl_IsOrder.l1, if_pos (show (j : Int) < ((elems m (row l i)).length : Int) by omega), if_pos (show (0 : Int) ≤ (j : Int) by omega), ints_length, e0, if_pos (show (0 : Int) ≤ (((elems m (row l i)).getD j 0 : Nat) : Int) by omega), if_pos (show (((elems m (row l i)).getD j 0 : Nat) : Int) < (l.length : Int) by omega), h.rd, andNot_i64 _ _ (h.row_62 _) (h.row_62 _), if_neg hd]
          exact Ev.now _
    · refine Ev.step (fun _ => rfl) ?_
      simp only [impl_IsOrder.l0, if_neg (show ¬ (l.length : Int) < (l.length : Int) by omega)]
      exact Ev.now _
end Go.Proofs.YtimjblnglhmakaaDoor.M
namespace Go.Proofs.YtimjblnglhmakaaDoor.M
open Go.RowKit Go.Proofs.YtimjblnglhmakaaDoorW.PrintMore Go.Proofs.YtimjblnglhmakaaDoorW.PrintLast Go.Proofs.YtimjblnglhmakaaDoorW.PrintWords Go.Proofs.YtimjblnglhmakaaDoor.P
theorem orGood_ev (n : Int) (l : List Int) (hl : l.length ≤ 140737488355328) : Ev (fun k => spec_orGood.f k n l) (isOrd n l) := by
  unfold spec_orGood.f isOrd
  refine Ev.bind (orRelation_ev n l hl) ?_
  cases hr : isRel n l with
  | false => simp only [Bool.false_eq_true, if_false, Bool.false_and]; exact Ev.now _
  | true =>
    obtain ⟨m, rfl, h⟩ := isRel_iff.1 hr
    have hlen := h.len
    have h10 := h.le
    simp only [if_true, Bool.true_and]
    refine Ev.all (fun i k => spec_orGood.l0 k l (l.length : Int) (i : Int) (m : Int) l) l.length _ ?_ ?_ ?_
    · intro i r hi hp hrest
      rw [Bool.and_eq_true] at hp
      have hB : B l i i = false := by simpa using hp.1
      refine Ev.step (fun _ => rfl) ?_
      simp only [spec_orGood.l0, if_pos (show (i : Int) < (l.length : Int) by omega), if_pos (show (0 : Int) ≤ (i : Int) by omega), h.rd, orHas_eq (row l i) i (by omega), show (row l i).testBit i = B l i i from rfl, Option.bind_some, hB, Bool.false_eq_true, if_false]
      refine Ev.bind (orList_ev m (by omega) (row l i) (h.row_lt i)) ?_
      have hE := elems_length_le m (row l i)
      rw [ints_length]
      refine Ev.up (fun q k => spec_orGood.l1 k ((row l i : Nat) : Int) l (l.length : Int) (i : Int) (ints (elems m (row l i))) ((elems m (row l i)).length : Int) (q : Int) (m : Int) l) (elems m (row l i)).length ?_ ?_
      · intro q hq hn
        refine Ev.step (fun _ => rfl) ?_
        have hmem : (elems m (row l i)).getD q 0 ∈ elems m (row l i) := by simp [hq]
        have hlt := (mem_elems.1 hmem).1
        have e0 : rd (ints (elems m (row l i))) (q : Int) = (((elems m (row l i)).getD q 0 : Nat) : Int) := by rw [rd_nat, ints_getD _ _ hq]
        have hd : diff (row l ((elems m (row l i)).getD q 0)) (row l i) = 0 := by
          have hc := hp.2
          unfold closedAt at hc
          rw [allB_iff, hlen] at hc
          exact beq_iff_eq.1 (hc q hq)
        simp only [spec_orGood.l1, if_pos (show (q : Int) < ((elems m (row l i)).length : Int) by omega), if_pos (show (0 : Int) ≤ (q : Int) by omega), ints_length, e0, if_pos (show (0 : Int) ≤ (((elems m (row l i)).getD q 0 : Nat) : Int) by omega), if_pos (show (((elems m (row l i)).getD q 0 : Nat) : Int) < (l.length : Int) by omega), h.rd, andNot_i64 _ _ (h.row_62 _) (h.row_62 _), hd, Int.natCast_zero, if_true, next64 q _ hq (by omega)]
        exact hn
      · refine Ev.step (fun _ => rfl) ?_
        simp only [spec_orGood.l1, if_neg (show ¬ ((elems m (row l i)).length : Int) < ((elems m (row l i)).length : Int) by omega), next64 i l.length hi (by omega)]
        exact hrest
    · intro i hi hp
      refine Ev.step (fun _ => rfl) ?_
      simp only [spec_orGood.l0, if_pos (show (i : Int) < (l.length : Int) by omega), if_pos (show (0 : Int) ≤ (i : Int) by omega), h.rd, orHas_eq (row l i) i (by omega), show (row l i).testBit i = B l i i from rfl, Option.bind_some]
      cases hB : B l i i with
      | true => simp only [if_true]; exact Ev.now _
      | false =>
        rw [hB] at hp
        have hc : closedAt l.length l i = false := by simpa using hp
        unfold closedAt at hc
        rw [hlen] at hc
        obtain ⟨j, hj, hbad, hless⟩ := least_false (allB_false.1 hc)
        simp only [Bool.false_eq_true, if_false]
        refine Ev.bind (orList_ev m (by omega) (row l i) (h.row_lt i)) ?_
        have hE := elems_length_le m (row l i)
        rw [ints_length]
        refine Ev.up (fun q k => spec_orGood.l1 k ((row l i : Nat) : Int) l (l.length : Int) (i : Int) (ints (elems m (row l i))) ((elems m (row l i)).length : Int) (q : Int) (m : Int) l) j ?_ ?_
        · intro q hq hn
          refine Ev.step (fun _ => rfl) ?_
          have hmem : (elems m (row l i)).getD q 0 ∈ elems m (row l i) := by simp [show q < (elems m (row l i)).length by omega]
          have hlt := (mem_elems.1 hmem).1
          have e0 : rd (ints (elems m (row l i))) (q : Int) = (((elems m (row l i)).getD q 0 : Nat) : Int) := by rw [rd_nat, ints_getD _ _ (by omega)]
          have hd : diff (row l ((elems m (row l i)).getD q 0)) (row l i) = 0 := beq_iff_eq.1 (hless q hq)
          simp only [spec_orGood.l1, if_pos (show (q : Int) < ((elems m (row l i)).length : Int) by omega), if_pos (show (0 : Int) ≤ (q : Int) by omega), ints_length, e0, if_pos (show (0 : Int) ≤ (((elems m (row l i)).getD q 0 : Nat) : Int) by omega), if_pos (show (((elems m (row l i)).getD q 0 : Nat) : Int) < (l.length : Int) by omega), h.rd, andNot_i64 _ _ (h.row_62 _) (h.row_62 _), hd, Int.natCast_zero, if_true, next64 q _ (show q < (elems m (row l i)).length by omega) (by omega)]
          exact hn
        · refine Ev.step (fun _ => rfl) ?_
          have hmem : (elems m (row l i)).getD j 0 ∈ elems m (row l i) := by simp [hj]
          have hlt := (mem_elems.1 hmem).1
          have e0 : rd (ints (elems m (row l i))) (j : Int) = (((elems m (row l i)).getD j 0 : Nat) : Int) := by rw [rd_nat, ints_getD _ _ (by omega)]
          have hd : ¬ ((diff (row l ((elems m (row l i)).getD j 0)) (row l i) : Nat) : Int) = 0 := by
            have := beq_eq_false_iff_ne.1 hbad
            omega
          simp only [spec_orGood.l1, if_pos (show (j : Int) < ((elems m (row l i)).length : Int) by omega), if_pos (show (0 : Int) ≤ (j : Int) by omega), ints_length, e0, if_pos (show (0 : Int) ≤ (((elems m (row l i)).getD j 0 : Nat) : Int) by omega), if_pos (show (((elems m (row l i)).getD j 0 : Nat) : Int) < (l.length : Int) by omega), h.rd, andNot_i64 _ _ (h.row_62 _) (h.row_62 _), if_neg hd]
          exact Ev.now _
    · refine Ev.step (fun _ => rfl) ?_
      simp only [spec_orGood.l0, if_neg (show ¬ (l.length : Int) < (l.length : Int) by omega)]
      exact Ev.now _
theorem setOf_bit_or (q : Nat → Bool) (j : Nat) : setOf (j + 1) q = if q j then setOf j q ||| 2 ^ j else setOf j q := by
  show setOf j q ||| (if q j then 2 ^ j else 0) = _
  cases q j <;> simp
def part (n : Nat) (p : Nat → Nat → Bool) (i j : Nat) : List Int := (List.range n).map fun a => ((setOf (if a < i then n else if a = i then j else 0) (p a) : Nat) : Int)
theorem part_length (n : Nat) (p : Nat → Nat → Bool) (i j : Nat) : (part n p i j).length = n := by simp [part]
theorem part_getD (n : Nat) (p : Nat → Nat → Bool) (i j a : Nat) (h : a < n) : (part n p i j).getD a 0 = ((setOf (if a < i then n else if a = i then j else 0) (p a) : Nat) : Int) := by simp [part, h]
theorem part_next (n : Nat) (p : Nat → Nat → Bool) (i : Nat) : part n p i n = part n p (i + 1) 0 := by
  unfold part
  apply List.map_congr_left
  intro a _
  by_cases h1 : a < i
  · rw [if_pos h1, if_pos (by omega)]
  · rw [if_neg h1]
    by_cases h2 : a = i
    · rw [if_pos h2, if_pos (by omega)]
    · rw [if_neg h2, if_neg (by omega)]
      by_cases h3 : a = i + 1
      · rw [if_pos h3]
      · rw [if_neg h3]
theorem part_no (n : Nat) (p : Nat → Nat → Bool) (i j : Nat) (hi : i < n) (h : p i j = false) : part n p i j = part n p i (j + 1) := by
  unfold part
  apply List.map_congr_left
  intro a _
  by_cases h2 : a = i
  · subst h2
    rw [if_neg (Nat.lt_irrefl _), if_pos rfl, if_neg (Nat.lt_irrefl _), if_pos rfl, setOf_bit_or, h]
    rfl
  · rw [if_neg h2, if_neg h2]
theorem part_yes (n : Nat) (p : Nat → Nat → Bool) (i j : Nat) (hi : i < n) (h : p i j = true) : (part n p i j).set i ((setOf j (p i) ||| 2 ^ j : Nat) : Int) = part n p i (j + 1) := by
  apply list_ext_getD (by simp [part_length])
  intro a ha
  have ha : a < n := by simpa [part_length] using ha
  rw [part_getD n p i (j + 1) a ha]
  by_cases h2 : a = i
  · subst h2
    rw [if_neg (Nat.lt_irrefl _), if_pos rfl, setOf_bit_or, h]
    rw [List.getD_eq_getElem?_getD, List.getElem?_set_self (by rw [part_length]; exact hi)]
    rfl
  · have e : ((part n p i j).set i ((setOf j (p i) ||| 2 ^ j : Nat) : Int)).getD a 0 = (part n p i j).getD a 0 := by
      simp [List.getD, Ne.symm h2]
    rw [e, part_getD n p i j a ha, if_neg h2, if_neg h2]
theorem part_zero (n : Nat) (p : Nat → Nat → Bool) : part n p 0 0 = List.replicate n 0 := by
  apply list_ext_getD (by simp [part_length])
  intro a ha
  have ha : a < n := by simpa [part_length] using ha
  rw [part_getD n p 0 0 a ha, if_neg (Nat.not_lt_zero _)]
  have : (if a = 0 then 0 else 0) = 0 := by split <;> rfl
  rw [this]
  simp [setOf, ha]
theorem part_all (n : Nat) (p : Nat → Nat → Bool) : part n p n 0 = relL n p := by
  unfold part relL
  apply List.map_congr_left
  intro a ha
  rw [List.mem_range] at ha
  rw [if_pos ha]
theorem relation_ev (n : Nat) (hn : n ≤ 62) (g : Nat → Int → Int → Option Bool) (p : Nat → Nat → Bool) (hg : ∀ i j, i < n → j < n → Ev (fun k => g k (i : Int) (j : Int)) (p i j)) :
    Ev (fun k => impl_relation.f k (n : Int) (g k)) ((n : Int), relL n p) := by
  -- the tests all come to their answers from one number of rounds on
  obtain ⟨K, hK⟩ : ∃ K, ∀ k, K ≤ k → ∀ i j, i < n → j < n → g k (i : Int) (j : Int) = some (p i j) := by
    have one : ∀ m, ∃ K, ∀ k, K ≤ k → ∀ i j, i < n → j < n → i * n + j < m → g k (i : Int) (j : Int) = some (p i j) := by
      intro m
      induction m with
      | zero => exact ⟨0, fun k _ i j _ _ h => absurd h (Nat.not_lt_zero _)⟩
      | succ m ih =>
        obtain ⟨K, hK⟩ := ih
        by_cases hx : ∃ i j, i < n ∧ j < n ∧ i * n + j = m
        · obtain ⟨i, j, hi, hj, hm⟩ := hx
          obtain ⟨K', hK'⟩ := hg i j hi hj
          refine ⟨max K K', fun k hk i' j' hi' hj' h => ?_⟩
          by_cases he : i' * n + j' = m
          · have e1 : i' = i := by
              have a1 : (i' * n + j') / n = i' := by rw [Nat.mul_comm, Nat.mul_add_div (by omega), Nat.div_eq_of_lt hj', Nat.add_zero]
              have a2 : (i * n + j) / n = i := by rw [Nat.mul_comm, Nat.mul_add_div (by omega), Nat.div_eq_of_lt hj, Nat.add_zero]
              rw [← a1, ← a2, he, hm]
            subst e1
            have e2 : j' = j := by omega
            subst e2
            exact hK' k (by omega)
          · exact hK k (by omega) i' j' hi' hj' (by omega)
        · exact ⟨K, fun k hk i j hi hj h => hK k hk i j hi hj (by
            rcases Nat.lt_or_ge (i * n + j) m with h1 | h1
            · exact h1
            · exact absurd ⟨i, j, hi, hj, by omega⟩ hx)⟩
    obtain ⟨K, h⟩ := one (n * n + n)
    refine ⟨K, fun k hk i j hi hj => h k hk i j hi hj ?_⟩
    have : i * n ≤ n * n := Nat.mul_le_mul_right n (by omega)
    omega
  -- with the tests as' at one number
  have main : ∀ is : Int → Int → Option Bool, (∀ i j, i < n → j < n → is (i : Int) (j : Int) = some (p i j)) → Ev (fun k => impl_relation.f k (n : Int) is) ((n : Int), relL n p) := by
    intro is his
    unfold impl_relation.f
    simp only [if_pos (show (0 : Int) ≤ (n : Int) by omega), Int.toNat_natCast, if_pos (show n ≤ 35184372088832 by omega)]
    rw [← part_zero n p]
    refine Ev.up (fun i k => impl_relation.l0 is k (n : Int) (n : Int) (i : Int) (n : Int) (part n p i 0)) n ?_ ?_
    · intro i hi h
      refine Ev.step (fun _ => rfl) ?_
      simp only [impl_relation.l0, if_pos (show (i : Int) < (n : Int) by omega)]
      refine Ev.up (fun j k => impl_relation.l1 is k (n : Int) (i : Int) (n : Int) (i : Int) (n : Int) (j : Int) (n : Int) (part n p i j)) n ?_ ?_
      · intro j hj h
        refine Ev.step (fun _ => rfl) ?_
        simp only [impl_relation.l1, if_pos (show (j : Int) < (n : Int) by omega), his i j hi hj, Option.bind_some, next64 j n hj (by omega)]
        cases hp : p i j with
        | false =>
          simp only [Bool.false_eq_true, if_false]
          rw [part_no n p i j hi hp]
          exact h
        | true =>
          have hs : setOf j (p i) < 9223372036854775808 := setOf_62 _ _ (by omega)
          have h2 : (2 : Nat) ^ j < 9223372036854775808 := Nat.lt_of_le_of_lt (Nat.pow_le_pow_right (by decide) (by omega : j ≤ 62)) (by decide)
          have e1 : rd (part n p i j) (i : Int) = ((setOf j (p i) : Nat) : Int) := by
            rw [rd_nat, part_getD n p i j i hi, if_neg (Nat.lt_irrefl _), if_pos rfl]
          simp only [if_true, if_pos (show (0 : Int) ≤ (i : Int) by omega), part_length, if_pos (show (i : Int) < (n : Int) by omega), if_pos (show (0 : Int) ≤ (j : Int) by omega), e1, shl1 j (by omega), or_i64 _ _ hs h2, Int.toNat_natCast]
          rw [part_yes n p i j hi hp]
          exact h
      · refine Ev.step (fun _ => rfl) ?_
        simp only [impl_relation.l1, if_neg (show ¬ (n : Int) < (n : Int) by omega), next64 i n hi (by omega)]
        rw [part_next]
        exact h
    · refine Ev.step (fun _ => rfl) ?_
      simp only [impl_relation.l0, if_neg (show ¬ (n : Int) < (n : Int) by omega)]
      rw [part_all]
      exact Ev.now _
  -- the least test that answers so
  have h0 := main (fun x y => if 0 ≤ x ∧ x < n ∧ 0 ≤ y ∧ y < n then some (p x.toNat y.toNat) else none) (fun i j hi hj => by
    show (if _ then _ else _) = _
    rw [if_pos ⟨by omega, by omega, by omega, by omega⟩, Int.toNat_natCast, Int.toNat_natCast])
  obtain ⟨K', hK'⟩ := h0
  refine ⟨max K K' + 1, fun k hk => ?_⟩
  obtain ⟨d, rfl⟩ : ∃ d, k = d + 1 := ⟨k - 1, by omega⟩
  refine impl_relation.mono2 (is := fun x y => if 0 ≤ x ∧ x < n ∧ 0 ≤ y ∧ y < n then some (p x.toNat y.toNat) else none) (is' := g (d + 1)) (fun x y r hr => ?_) (n : Int) d _ (hK' d (by omega))
  by_cases hxy : 0 ≤ x ∧ x < n ∧ 0 ≤ y ∧ y < n
  · rw [if_pos hxy] at hr
    obtain ⟨i, rfl⟩ := Int.eq_ofNat_of_zero_le hxy.1
    obtain ⟨j, rfl⟩ := Int.eq_ofNat_of_zero_le hxy.2.2.1
    rw [Int.toNat_natCast, Int.toNat_natCast] at hr
    rw [hK (d + 1) (by omega) i j (by omega) (by omega)]
    exact hr
  · rw [if_neg hxy] at hr
    cases hr
end Go.Proofs.YtimjblnglhmakaaDoor.M
namespace Go.Proofs.YtimjblnglhmakaaDoor.P
open Go.RowKit Go.Proofs.YtimjblnglhmakaaDoorW.PrintWords Go.Proofs.YtimjblnglhmakaaDoorW.PrintLast Go.Proofs.YtimjblnglhmakaaDoorW.PrintMore
open Bool renaming true → T, false → F
open List renaming setIfInBounds_toArray → L_, set_cons_zero → M_, set_cons_succ → N_, map_toArray → P_, map_cons → Q_, map_nil → R_, length_drop → S_, length_take → U_
open Aside0 renaming mk → A_
attribute [local go_sem] max2_int min2_int max_two min_two max_three min_three max_four min_four
set_option linter.unusedVariables false
set_option linter.unusedSimpArgs false
attribute [local go_sem] fldOrder_0 fldOrder_1
end Go.Proofs.YtimjblnglhmakaaDoor.P
namespace Go.Proofs.YtimjblnglhmakaaDoor.M
open Go.RowKit Go.Proofs.YtimjblnglhmakaaDoorW.PrintMore Go.Proofs.YtimjblnglhmakaaDoorW.PrintLast Go.Proofs.YtimjblnglhmakaaDoorW.PrintWords Go.Proofs.YtimjblnglhmakaaDoor.P
def Tot {α : Type} (g : Nat → Option α) (Q : α → Prop) : Prop := ∃ r, Ev g r ∧ Q r
section
variable {α β : Type} {Q : α → Prop} {R : β → Prop}
theorem Tot.now {r : α} (h : Q r) : Tot (fun _ => some r) Q := ⟨r, Ev.now r, h⟩
theorem Tot.step {g f : Nat → Option α} (h : ∀ k, g (k + 1) = f k) (k : Tot f Q) : Tot g Q := by obtain ⟨r, k, hq⟩ := k; exact ⟨r, Ev.step h k, hq⟩
theorem Tot.bind {g : Nat → Option α} {f : Nat → α → Option β} (h : Tot g Q) (k : ∀ a, Q a → Tot (fun n => f n a) R) : Tot (fun n => (g n).bind (f n)) R := by
  obtain ⟨a, h, hq⟩ := h
  obtain ⟨r, k, hr⟩ := k a hq
  exact ⟨r, Ev.bind h k, hr⟩
theorem Tot.obind {x : Option α} {f : Nat → α → Option β} (h : ∃ r, x = some r ∧ Q r) (k : ∀ a, Q a → Tot (fun n => f n a) R) : Tot (fun n => x.bind (f n)) R := by
  obtain ⟨a, rfl, hq⟩ := h
  exact k a hq
theorem Tot.ite {c : Prop} [Decidable c] {f g : Nat → Option α} (h1 : c → Tot f Q) (h2 : ¬ c → Tot g Q) : Tot (fun k => if c then f k else g k) Q := by
  by_cases h : c
  · simp only [if_pos h]; exact h1 h
  · simp only [if_neg h]; exact h2 h
theorem Tot.up {S : Type} (G : Nat → S → Nat → Option α) (n : Nat) (Inv : Nat → S → Prop)
    (step : ∀ i s, i < n → Inv i s → (∀ s', Inv (i + 1) s' → Tot (G (i + 1) s') Q) → Tot (G i s) Q) (stop : ∀ s, Inv n s → Tot (G n s) Q) (i : Nat) (hi : i ≤ n) (s : S) (hs : Inv i s) : Tot (G i s) Q := by
  obtain ⟨d, rfl⟩ : ∃ d, n = i + d := ⟨n - i, by omega⟩
  clear hi
  induction d generalizing i s with
  | zero => exact stop s hs
  | succ d ih =>
    refine step i s (by omega) hs fun s' h' => ?_
    exact ih (i + 1) s' h' (fun a b ha => step a b (by omega)) (by rw [show i + 1 + d = i + (d + 1) by omega]; exact stop)
end
def By (l : List Int) : Prop := ∀ x ∈ l, 0 ≤ x ∧ x ≤ 255
theorem by_wf {l : List Int} (h : ∀ x ∈ l, (Lit.int .u8 x).wf = true) : By l := by
  intro x hx
  have := h x hx
  simp [Lit.wf, IntKind.min, IntKind.max, IntKind.signed, IntKind.bits] at this
  omega
theorem By.rd {l : List Int} (h : By l) (i : Nat) : 0 ≤ rd l (i : Int) ∧ rd l (i : Int) ≤ 255 := by
  rw [rd_nat]
  by_cases hi : i < l.length
  · have := h l[i] (List.getElem_mem hi)
    simpa [hi] using this
  · simp [Nat.not_lt.1 hi]
theorem and_255 (x : Int) : 0 ≤ Go.bits .and .u64 x 255 ∧ Go.bits .and .u64 x 255 ≤ 255 := by
  have e : Go.bits .and .u64 x 255 = IntKind.u64.wrap (((BitVec.ofInt 64 x).toNat &&& 255 : Nat) : Int) := by
    show IntKind.u64.wrap ((BitVec.ofInt 64 x &&& BitVec.ofInt 64 255).toNat : Int) = _
    rw [BitVec.toNat_and]; rfl
  have h : (BitVec.ofInt 64 x).toNat &&& 255 ≤ 255 := Nat.and_le_right
  rw [e, u64_small _ (by omega)]
  omega
theorem wrap64_in (x : Int) (h0 : -9223372036854775808 ≤ x) (h1 : x ≤ 9223372036854775807) : wrap64 x = x := by unfold wrap64; omega
theorem next_ok {l : List Int} (hb : By l) (p h : Int) (hp : 0 ≤ p) (hp2 : p ≤ 1000000) : ∃ r, spec_l1Cur_next.f l p h = some r ∧ 0 ≤ r.1 ∧ r.1 ≤ 255 ∧ r.2.1 = p + 1 := by
  unfold spec_l1Cur_next.f
  obtain ⟨i, rfl⟩ := Int.eq_ofNat_of_zero_le hp
  have h1 := hb.rd i
  rw [wrap64_in ((i : Int) + 1) (by omega) (by omega)]
  have ha := fun x => and_255 x
  by_cases h0 : (i : Int) < (l.length : Int)
  · rw [if_pos h0, if_pos hp, if_pos (show (i : Int) + 1 ≤ (l.length : Int) by omega)]
    exact ⟨_, rfl, by rw [wrap64_in _ (by omega) (by omega)]; omega, by rw [wrap64_in _ (by omega) (by omega)]; omega, rfl⟩
  · rw [if_neg h0, if_neg (show ¬ (i : Int) + 1 ≤ (l.length : Int) by omega)]
    refine ⟨_, rfl, ?_, ?_, rfl⟩
    · have := ha ((IntKind.u64.wrap (IntKind.u64.wrap (IntKind.u64.wrap (h * 6364136223846793005)) + 1442695040888963407)) / 1099511627776)
      rw [wrap64_in _ (by omega) (by omega)]; exact this.1
    · have := ha ((IntKind.u64.wrap (IntKind.u64.wrap (IntKind.u64.wrap (h * 6364136223846793005)) + 1442695040888963407)) / 1099511627776)
      rw [wrap64_in _ (by omega) (by omega)]; exact this.2
theorem pick_ok {l : List Int} (hb : By l) (p h a : Int) (hp : 0 ≤ p) (hp2 : p ≤ 999990) : ∃ r, spec_l1Cur_pick.f l p h a = some r ∧ 0 ≤ r.1 ∧ (r.1 = 0 ∨ r.1 < a) ∧ p ≤ r.2.1 ∧ r.2.1 ≤ p + 2 := by
  unfold spec_l1Cur_pick.f
  by_cases h1 : a ≤ 1
  · rw [if_pos h1]; exact ⟨_, rfl, by simp, by simp, by simp, by simp; omega⟩
  · rw [if_neg h1]
    obtain ⟨⟨v, p1, h'⟩, e, a1, a2, a3⟩ := next_ok hb p h hp (by omega)
    simp only at a1 a2 a3
    subst a3
    rw [e, Option.bind_some]
    by_cases h2 : a > 200
    · rw [if_pos h2]
      obtain ⟨⟨v2, p2, h''⟩, e2, b1, b2, b3⟩ := next_ok hb (p + 1) h' (by omega) (by omega)
      simp only at b1 b2 b3
      subst b3
      rw [e2, Option.bind_some, if_neg (by omega)]
      refine ⟨_, rfl, ?_, ?_, by simp; omega, by simp; omega⟩
      all_goals
        simp only
        rw [wrap64_in (v * 256) (by omega) (by omega), wrap64_in (v * 256 + v2) (by omega) (by omega), Int.tmod_eq_emod_of_nonneg (by omega)]
      · exact Int.emod_nonneg _ (by omega)
      · exact .inr (Int.emod_lt_of_pos _ (by omega))
    · rw [if_neg h2, if_neg (by omega)]
      refine ⟨_, rfl, ?_, ?_, by simp only; omega, by simp only; omega⟩
      all_goals
        simp only
        rw [Int.tmod_eq_emod_of_nonneg (by omega)]
      · exact Int.emod_nonneg _ (by omega)
      · exact .inr (Int.emod_lt_of_pos _ (by omega))
theorem among_ok {l : List Int} (hb : By l) (p h : Int) (z : List Int) (hz : z ≠ []) (hp : 0 ≤ p) (hp2 : p ≤ 999990) : ∃ r, spec_l1Cur_among.f l p h z = some r ∧ r.1 ∈ z ∧ p ≤ r.2.1 ∧ r.2.1 ≤ p + 2 := by
  obtain ⟨r, e, h1, h2, h3⟩ := pick_ok hb p h (z.length : Int) hp hp2
  have hz' := List.length_pos_iff.2 hz
  unfold spec_l1Cur_among.f
  rw [e, Option.bind_some, if_pos h1, if_pos (by omega)]
  refine ⟨_, rfl, ?_, h3⟩
  obtain ⟨i, hi⟩ := Int.eq_ofNat_of_zero_le h1
  simp only [hi]
  rw [rd_get z i (by omega)]
  exact List.getElem_mem _
end Go.Proofs.YtimjblnglhmakaaDoor.M
namespace Go.Proofs.YtimjblnglhmakaaDoor.P
open Go.RowKit Go.Proofs.YtimjblnglhmakaaDoorW.PrintWords Go.Proofs.YtimjblnglhmakaaDoorW.PrintLast Go.Proofs.YtimjblnglhmakaaDoorW.PrintMore
open Bool renaming true → T, false → F
open List renaming setIfInBounds_toArray → L_, set_cons_zero → M_, set_cons_succ → N_, map_toArray → P_, map_cons → Q_, map_nil → R_, length_drop → S_, length_take → U_
open Aside0 renaming mk → A_
attribute [local go_sem] max2_int min2_int max_two min_two max_three min_three max_four min_four
set_option linter.unusedVariables false
set_option linter.unusedSimpArgs false
attribute [local go_sem] fldOrder_0 fldOrder_1

end Go.Proofs.YtimjblnglhmakaaDoor.P

