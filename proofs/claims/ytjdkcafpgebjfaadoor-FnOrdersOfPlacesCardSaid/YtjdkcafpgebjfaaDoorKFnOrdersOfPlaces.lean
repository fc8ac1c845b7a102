/- The law FnOrdersOfPlaces holds at every input. Written by wip/pack.py: the kit's printed words that are used, the functions' walks as wip/gen.py prints them, and hand proofs. -/
import Derived.Test.YtjdkcafpgebjfaaDoorKFnOrdersOfPlaces1
import Derived.SizedLaws
import Derived.ChangeSlices
import Derived.Test.YtjdkcafpgebjfaaDoorRows
import Derived.Test.YtjdkcafpgebjfaaDoorCards
import Derived.Test.YtjdkcafpgebjfaaDoorTie
import Derived.WalkKit
import Derived.ProofKit
import Derived.OpenShut
import Derived.ShutString
import Derived.ChangeOld
import Derived.Below
import Derived.LaidMore
import Derived.Stop.Joined
import Derived.Stop.LaidErr
import Derived.Lib.LaidTab
import Derived.Lib.SmallJoins
import Derived.SevenTiedAt
namespace Go.Proofs.YtjdkcafpgebjfaaDoor.P
open Go.RowKit Go.Proofs.YtjdkcafpgebjfaaDoorW.PrintWords Go.Proofs.YtjdkcafpgebjfaaDoorW.PrintLast Go.Proofs.YtjdkcafpgebjfaaDoorW.PrintMore
open Bool renaming true → T, false → F
open List renaming setIfInBounds_toArray → L_, set_cons_zero → M_, set_cons_succ → N_, map_toArray → P_, map_cons → Q_, map_nil → R_, length_drop → S_, length_take → U_
open Aside0 renaming mk → A_
attribute [local go_sem] max2_int min2_int max_two min_two max_three min_three max_four min_four
set_option linter.unusedVariables false
set_option linter.unusedSimpArgs false
attribute [local go_sem] fldOrder_0 fldOrder_1
mutual
def laws_FnOrdersOfPlaces.j0 : Nat → List Int → Int → List Int → Bool → Bool → Int → List Int → Option (Bool)
 | 0,_,_,_,_,_,_,_=>none
 | k + 1,x1,x5,x6,x8,x49,x465000,x465001=>if x49 = true then (some false) else (if x8 = true then ((impl_IsSemiorder.f k x465000 x465001).bind fun bt472=>((impl_IsPlaces.f k x465000 x465001 x5 x6).bind fun bt474=>(if bt472.2 = true then (if bt472.1 = true then (if bt474.2 = true then (laws_FnOrdersOfPlaces.j1 k x1 x5 x6 (!bt474.1) x465000 x465001) else (laws_FnOrdersOfPlaces.j1 k x1 x5 x6 true x465000 x465001)) else (laws_FnOrdersOfPlaces.j1 k x1 x5 x6 true x465000 x465001)) else (laws_FnOrdersOfPlaces.j1 k x1 x5 x6 true x465000 x465001)))) else (some true))
def laws_FnOrdersOfPlaces.j1 : Nat → List Int → Int → List Int → Bool → Int → List Int → Option (Bool)
 | 0,_,_,_,_,_,_=>none
 | k + 1,x1,x5,x6,x77,x465000,x465001=>if x77 = true then (some false) else ((laws_vNumber.f k x1).bind fun t476=>(laws_FnOrdersOfPlaces.l0 k x5 (Int.tmod t476 50) ([] : List Int) x6 (x6.length : Int) 0 x465000 x465001))
def laws_FnOrdersOfPlaces.l0 : Nat → Int → Int → List Int → List Int → Int → Int → Int → List Int → Option (Bool)
 | 0,_,_,_,_,_,_,_,_=>none
 | k + 1,x5,x15,x16,x81,x82,x83,x465000,x465001=>if x83 < x82 then (if 0 ≤ x83 then (if x83 < (x81.length : Int) then (if (wrap64 ((rd x81 x83) + x15)) > 1000 then (some true) else (if x16.length < 17592186044416 then (laws_FnOrdersOfPlaces.l0 k x5 x15 (x16 ++ [wrap64 ((rd x81 x83) + x15)]) x81 x82 (wrap64 (x83 + 1)) x465000 x465001) else (none))) else (none)) else (none)) else ((impl_OrderOfPlaces.f k x5 x16).bind fun bt481=>(if bt481.2.2 = true then ((laws_vOrder.f k bt481.1 bt481.2.1 x465000 x465001).bind fun t487=>(some t487)) else (some false)))
end
def laws_FnOrdersOfPlaces.f (k : Nat) (l0 : List Int) (l1 : List Int) : Option (Bool) := (laws_big.f l0 l1).bind fun t454 => (if t454 = true then (some true) else ((spec_DrawOrderOfPlaces.f k l0).bind fun bt455 => ((impl_OrderOfPlaces.f k bt455.1 bt455.2).bind fun bt459 => ((spec_OrderOfPlaces.f k bt455.1 bt455.2).bind fun bt465 => (if (bt459.2.2 != bt465.2.2) = true then (laws_FnOrdersOfPlaces.j0 k l1 bt455.1 bt455.2 bt459.2.2 true bt459.1 bt459.2.1) else ((laws_vOrder.f k bt459.1 bt459.2.1 bt465.1 bt465.2.1).bind fun t471 => (laws_FnOrdersOfPlaces.j0 k l1 bt455.1 bt455.2 bt459.2.2 (!t471) bt459.1 bt459.2.1)))))))
set_option maxHeartbeats 8000000 in
set_option maxRecDepth 100000 in
theorem laws_FnOrdersOfPlaces.calls (k : Nat) (A0 : Option Addr) (c0 : Nat) (l0 : List Int) (A1 : Option Addr) (c1 : Nat) (l1 : List Int) (r : Bool) (w : World) (hr0 : Kd.C (Kd.int .u8) w A0 l0.length l0) (hc0 : l0.length ≤ c0) (hr1 : Kd.C (Kd.int .u8) w A1 l1.length l1) (hc1 : l1.length ≤ c1) (hT : TabOK w) (h : laws_FnOrdersOfPlaces.f k l0 l1 = some r) :
 Calls Tryd.prog 4 #[.slice A0 l0.length c0,.slice A1 l1.length c1] w fun e w'=>e = .returned (.bool r) ∧ Below w.heap.size w w':=by
 have hu26:=Tryd.underlying26;have HT:=A_ hT;clear hT;have HR0:=A_ hr0;have HC0:=A_ hc0;clear hr0 hc0;have HR1:=A_ hr1;have HC1:=A_ hc1;clear hr1 hc1;have HB:=A_ (Below.refl w.heap.size w);have H : ((laws_big.f l0 l1).bind fun t454=>(if t454 = true then (some true) else ((spec_DrawOrderOfPlaces.f k l0).bind fun bt455=>((impl_OrderOfPlaces.f k bt455.1 bt455.2).bind fun bt459=>((spec_OrderOfPlaces.f k bt455.1 bt455.2).bind fun bt465=>(if (bt459.2.2 != bt465.2.2) = true then (laws_FnOrdersOfPlaces.j0 k l1 bt455.1 bt455.2 bt459.2.2 true bt459.1 bt459.2.1) else ((laws_vOrder.f k bt459.1 bt459.2.1 bt465.1 bt465.2.1).bind fun t471=>(laws_FnOrdersOfPlaces.j0 k l1 bt455.1 bt455.2 bt459.2.2 (!t471) bt459.1 bt459.2.1)))))))) = some r:=h;clear h;replace H:=Option.bind_eq_some_iff.mp H;obtain ⟨t454,A30,H⟩:=H;replace H : (if t454 = true then (some true) else ((spec_DrawOrderOfPlaces.f k l0).bind fun bt455=>((impl_OrderOfPlaces.f k bt455.1 bt455.2).bind fun bt459=>((spec_OrderOfPlaces.f k bt455.1 bt455.2).bind fun bt465=>(if (bt459.2.2 != bt465.2.2) = true then (laws_FnOrdersOfPlaces.j0 k l1 bt455.1 bt455.2 bt459.2.2 true bt459.1 bt459.2.1) else ((laws_vOrder.f k bt459.1 bt459.2.1 bt465.1 bt465.2.1).bind fun t471=>(laws_FnOrdersOfPlaces.j0 k l1 bt455.1 bt455.2 bt459.2.2 (!t471) bt459.1 bt459.2.1))))))) = some r:=H;have A3:=A_ A30;clear A30;by_cases c4 : t454 = true
 ·subst c4;have H1 : (some true) = some r:=by rw [if_pos rfl] at H;exact H
  clear H;have H:=H1;clear H1;obtain rfl:=Option.some.inj H;go_enter Tryd.func4,Tryd.ntmps4
  go_wp2_with (first|((with_reducible refine gate_callee (f:=20) rfl ?_);refine goesL_ (some 23) rfl rfl Tryd.func20 (by kernel_rfl) rfl #[.slice A0 l0.length c0,.slice A1 l1.length c1] rfl au_ ?_;(with_reducible refine (laws_big.calls _ _ l0 _ _ l1 true _ ?side1 ?side2 ?side3 ?side4 A3.out).mono ?_);(case side1=>repeat (first|exact HR0.out|(with_reducible refine Kd.C_alloc ?_ _)|(with_reducible refine Kd.C_drewN ?_ _)|(with_reducible refine Kd.C_drew ?_)));(case side2=>exact HC0.out);(case side3=>repeat (first|exact HR1.out|(with_reducible refine Kd.C_alloc ?_ _)|(with_reducible refine Kd.C_drewN ?_ _)|(with_reducible refine Kd.C_drew ?_)));(case side4=>exact HC1.out);rintro e w' ⟨rfl,⟨nd,rfl⟩⟩;refine ⟨_,rfl,?_⟩))
  go_ret
  exact ⟨by first|rfl|(simp [errW_none,errW_some] <;> rfl)|(simp [*,errW_none,errW_some] <;> rfl),bb_⟩
 ·replace c4:=Bool.eq_false_iff.mpr c4;subst c4;have H1 : ((spec_DrawOrderOfPlaces.f k l0).bind fun bt455=>((impl_OrderOfPlaces.f k bt455.1 bt455.2).bind fun bt459=>((spec_OrderOfPlaces.f k bt455.1 bt455.2).bind fun bt465=>(if (bt459.2.2 != bt465.2.2) = true then (laws_FnOrdersOfPlaces.j0 k l1 bt455.1 bt455.2 bt459.2.2 true bt459.1 bt459.2.1) else ((laws_vOrder.f k bt459.1 bt459.2.1 bt465.1 bt465.2.1).bind fun t471=>(laws_FnOrdersOfPlaces.j0 k l1 bt455.1 bt455.2 bt459.2.2 (!t471) bt459.1 bt459.2.1)))))) = some r:=by rw [if_neg (show ¬ (false = true) by decide)] at H;exact H
  clear H;have H:=H1;clear H1;replace H:=Option.bind_eq_some_iff.mp H;obtain ⟨⟨t455,t456⟩,A50,H⟩:=H;replace H : ((impl_OrderOfPlaces.f k t455 t456).bind fun bt459=>((spec_OrderOfPlaces.f k t455 t456).bind fun bt465=>(if (bt459.2.2 != bt465.2.2) = true then (laws_FnOrdersOfPlaces.j0 k l1 t455 t456 bt459.2.2 true bt459.1 bt459.2.1) else ((laws_vOrder.f k bt459.1 bt459.2.1 bt465.1 bt465.2.1).bind fun t471=>(laws_FnOrdersOfPlaces.j0 k l1 t455 t456 bt459.2.2 (!t471) bt459.1 bt459.2.1))))) = some r:=H;have A5:=A_ A50;clear A50;replace H:=Option.bind_eq_some_iff.mp H;obtain ⟨⟨t459,t460,t463⟩,A60,H⟩:=H;replace H : ((spec_OrderOfPlaces.f k t455 t456).bind fun bt465=>(if (t463 != bt465.2.2) = true then (laws_FnOrdersOfPlaces.j0 k l1 t455 t456 t463 true t459 t460) else ((laws_vOrder.f k t459 t460 bt465.1 bt465.2.1).bind fun t471=>(laws_FnOrdersOfPlaces.j0 k l1 t455 t456 t463 (!t471) t459 t460)))) = some r:=H;have A6:=A_ A60;clear A60;replace H:=Option.bind_eq_some_iff.mp H;obtain ⟨⟨t465,t466,t469⟩,A70,H⟩:=H;replace H : (if (t463 != t469) = true then (laws_FnOrdersOfPlaces.j0 k l1 t455 t456 t463 true t459 t460) else ((laws_vOrder.f k t459 t460 t465 t466).bind fun t471=>(laws_FnOrdersOfPlaces.j0 k l1 t455 t456 t463 (!t471) t459 t460))) = some r:=H;have A7:=A_ A70;clear A70;have HC8:=A_ H;clear H;go_enter Tryd.func4,Tryd.ntmps4
  go_upto_region 6 with (first|((with_reducible refine gate_callee (f:=20) rfl ?_);refine goesL_ (some 23) rfl rfl Tryd.func20 (by kernel_rfl) rfl #[.slice A0 l0.length c0,.slice A1 l1.length c1] rfl au_ ?_;(with_reducible refine (laws_big.calls _ _ l0 _ _ l1 false _ ?side1 ?side2 ?side3 ?side4 A3.out).mono ?_);(case side1=>repeat (first|exact HR0.out|(with_reducible refine Kd.C_alloc ?_ _)|(with_reducible refine Kd.C_drewN ?_ _)|(with_reducible refine Kd.C_drew ?_)));(case side2=>exact HC0.out);(case side3=>repeat (first|exact HR1.out|(with_reducible refine Kd.C_alloc ?_ _)|(with_reducible refine Kd.C_drewN ?_ _)|(with_reducible refine Kd.C_drew ?_)));(case side4=>exact HC1.out);rintro e w' ⟨rfl,⟨nd,rfl⟩⟩;refine ⟨_,rfl,?_⟩)|((with_reducible refine gate_callee (f:=21) rfl ?_);refine goesL_ (some 26) rfl rfl Tryd.func21 (by kernel_rfl) rfl #[.slice A0 l0.length c0] rfl au_ ?_;(with_reducible refine (spec_DrawOrderOfPlaces.calls k _ _ l0 t455 t456 _ ?side1 ?side2 A5.out).mono ?_);(case side1=>repeat (first|exact HR0.out|(with_reducible refine Kd.C_alloc ?_ _)|(with_reducible refine Kd.C_drewN ?_ _)|(with_reducible refine Kd.C_drew ?_)));(case side2=>exact HC0.out);rintro e w9 ⟨v457,rfl,ho0,hb⟩;refine ⟨_,rfl,?_⟩;have HO458:=A_ (Kd.R_lower ho0 (below_size bb_));replace HB:=A_ (below_step bb_ hb);(try clear hb);(try clear hb2);(try clear hk);(try clear hi);(try clear ho0);obtain ⟨Ao10,co10,eo10⟩:=Kd.R_slice HO458.out;subst eo10)|((with_reducible refine gate_callee (f:=22) rfl ?_);refine goesL_ (some 32) rfl rfl Tryd.func22 (by kernel_rfl) rfl #[.int .i64 t455,.slice Ao10 t456.length co10] rfl au_ ?_;(with_reducible refine (impl_OrderOfPlaces.calls k t455 _ _ t456 t459 t460 t463 _ ?side1 ?side2 A6.out).mono ?_);(case side1=>exact cl_ (Kd.R_reads' HO458.out).2.2);(case side2=>exact (Kd.R_reads' HO458.out).2.1);rintro e w11 ⟨v461,rfl,ho0,hb⟩;refine ⟨_,rfl,?_⟩;have HO462:=A_ (Kd.R_lower (Kd.R_new' ho0 (Kd.R_lt (rl_ HO458))) (below_size bb_));replace HO458:=A_ (Kd.R_elder' (rl_ HO458) (Kd.R_base ho0) hb);replace HB:=A_ (below_step bb_ hb);(try clear hb);(try clear hb2);(try clear hk);(try clear hi);(try clear ho0))|((with_reducible refine gate_dst (N:=7) rfl ?_);refine box_event ?hg (N:=7) ?hd (cs:=#[.int .i64 0,.slice none 0 0]) (t:=26) ?hr ?_;(case hd=>rfl);(case hg=>rfl);(case hr=>first|(go_simp;done)|(go_simp;rfl));intro gb464 hg w12 hbox hb;replace HO458:=rb_ HO458 hb;replace HO462:=rb_ HO462 hb;have BK464:=A_ (hbox);have GW464:=A_ ((by rw [hg];exact (below_size bb_) : w.heap.size ≤ gb464));have GE464:=A_ ((by rw [hg];exact (below_size bb_) : w.heap.size ≤ gb464));replace HB:=A_ (below_step bb_ hb);clear hb hbox hg;have hcz13_0 : w12.cell? ⟨gb464,0,none⟩ = some (.int .i64 0):=blk_cell BK464.out 0;have hcz13_1 : w12.cell? ⟨gb464,1,none⟩ = some (.slice none 0 0):=blk_cell BK464.out 1;have hfz13_0:=blk_frozen BK464.out 0;have hfz13_1:=blk_frozen BK464.out 1;obtain ⟨Ao14,co14,eo14⟩:=Kd.R_slice HO462.out;subst eo14)|((with_reducible refine gate_callee (f:=23) rfl ?_);refine goesL_ (some 38) rfl rfl Tryd.func23 (by kernel_rfl) rfl #[.int .i64 t455,.slice Ao10 t456.length co10] rfl au_ ?_;(with_reducible refine (spec_OrderOfPlaces.calls k t455 _ _ t456 t465 t466 t469 _ ?side1 ?side2 A7.out).mono ?_);(case side1=>refine (Kd.R_reads' (e:=3) (base:=w.heap.size) (ok:=fun k_=>(True ∧ some k_ ≠ (.slice Ao14 t460.length co14 : Value).ownBlock)) (n:=t456.length) (c:=co10) ?_).2.2;exact (by (with_reducible repeat (first|apply Kd.R_alloc|apply Kd.R_drewN|apply Kd.R_drew));exact (Kd.R_mono (Kd.R_far (p:=⟨gb464,1,none⟩) (Kd.R_far (p:=⟨gb464,0,none⟩) (Kd.R_types HO458.out BK464.out (by decide)) (fun _ hk=>hk.2) (.int .i64 t459)) (fun _ hk=>hk.2) (.slice Ao14 t460.length co14)) (fun _ h_=>h_.1))));(case side2=>exact (Kd.R_reads' HO458.out).2.1);rintro e w15 ⟨v467,rfl,ho0,hb⟩;refine ⟨_,rfl,?_⟩;have HO468:=A_ (Kd.R_lower (Kd.R_new' (Kd.R_new' ho0 (Kd.R_lt (by (with_reducible repeat (first|apply Kd.R_alloc|apply Kd.R_drewN|apply Kd.R_drew));exact (Kd.R_mono (Kd.R_far (p:=⟨gb464,1,none⟩) (Kd.R_far (p:=⟨gb464,0,none⟩) (Kd.R_types HO458.out BK464.out (by decide)) (fun _ hk=>hk.2) (.int .i64 t459)) (fun _ hk=>hk.2) (.slice Ao14 t460.length co14)) (fun _ h_=>h_.1))))) (Kd.R_lt (by (with_reducible repeat (first|apply Kd.R_alloc|apply Kd.R_drewN|apply Kd.R_drew));exact (Kd.R_mono (Kd.R_far (p:=⟨gb464,1,none⟩) (Kd.R_far (p:=⟨gb464,0,none⟩) (Kd.R_types HO462.out BK464.out (by decide)) (fun _ hk=>hk.2) (.int .i64 t459)) (fun _ hk=>hk.2) (.slice Ao14 t460.length co14)) (fun _ h_=>h_.1))))) (below_size bb_));replace HO458:=A_ (Kd.R_elder' (by (with_reducible repeat (first|apply Kd.R_alloc|apply Kd.R_drewN|apply Kd.R_drew));exact (Kd.R_mono (Kd.R_far (p:=⟨gb464,1,none⟩) (Kd.R_far (p:=⟨gb464,0,none⟩) (Kd.R_types HO458.out BK464.out (by decide)) (fun _ hk=>hk.2) (.int .i64 t459)) (fun _ hk=>hk.2) (.slice Ao14 t460.length co14)) (fun _ h_=>h_.1))) (Kd.R_base ho0) hb);replace HO462:=A_ (Kd.R_elder' (by (with_reducible repeat (first|apply Kd.R_alloc|apply Kd.R_drewN|apply Kd.R_drew));exact (Kd.R_mono (Kd.R_far (p:=⟨gb464,1,none⟩) (Kd.R_far (p:=⟨gb464,0,none⟩) (Kd.R_types HO462.out BK464.out (by decide)) (fun _ hk=>hk.2) (.int .i64 t459)) (fun _ hk=>hk.2) (.slice Ao14 t460.length co14)) (fun _ h_=>h_.1))) (Kd.R_base ho0) hb);replace BK464:=A_ (blk_below (g:=gb464) (o:=.cells #[.int .i64 t459,.slice Ao14 t460.length co14] 26 (0,0)) (by (with_reducible repeat (first|refine blk_drewN ?_ _|refine blk_drew ?_|refine blk_alloc ?_ _));refine blk_put (cs:=#[.int .i64 t459,.slice none 0 0]) ?_ 1 _ rfl;(with_reducible repeat (first|refine blk_drewN ?_ _|refine blk_drew ?_|refine blk_alloc ?_ _));refine blk_put (cs:=#[.int .i64 0,.slice none 0 0]) ?_ 0 _ rfl;(with_reducible repeat (first|refine blk_drewN ?_ _|refine blk_drew ?_|refine blk_alloc ?_ _));exact BK464.out) hb);replace HB:=A_ (below_step bb_ hb);(try clear hb);(try clear hb2);(try clear hk);(try clear hi);(try clear ho0))|((with_reducible refine gate_dst (N:=9) rfl ?_);refine box_event ?hg (N:=9) ?hd (cs:=#[.int .i64 0,.slice none 0 0]) (t:=26) ?hr ?_;(case hd=>rfl);(case hg=>rfl);(case hr=>first|(go_simp;done)|(go_simp;rfl));intro gb470 hg w16 hbox hb;replace HO458:=rb_ HO458 hb;replace HO462:=rb_ HO462 hb;replace HO468:=rb_ HO468 hb;have BK470:=A_ (hbox);have GW470:=A_ ((by rw [hg];exact (below_size bb_) : w.heap.size ≤ gb470));have GE470:=A_ ((by rw [hg];exact (below_size bb_) : w.heap.size ≤ gb470));replace HB:=A_ (below_step bb_ hb);have NB464_470:=A_ ((by rw [hg];exact Nat.ne_of_lt (blk_lt (bl_ BK464)) : gb464 ≠ gb470));have NB470_464:=A_ ((by rw [hg];exact Nat.ne_of_gt (blk_lt (bl_ BK464)) : gb470 ≠ gb464));replace BK464:=bz BK464 hb;clear hb hbox hg;have hnb17:=NB470_464.out;have hnc17:=NB464_470.out;have hcz18_0 : w16.cell? ⟨gb470,0,none⟩ = some (.int .i64 0):=blk_cell BK470.out 0;have hcz18_1 : w16.cell? ⟨gb470,1,none⟩ = some (.slice none 0 0):=blk_cell BK470.out 1;have hfz18_0:=blk_frozen BK470.out 0;have hfz18_1:=blk_frozen BK470.out 1;obtain ⟨Ao19,co19,eo19⟩:=Kd.R_slice HO468.out;subst eo19))
  (try simp only [Act.put,L_,M_,N_]);go_cut [49] (fun v49 wc=>∃ (kq : Nat) (x49_7 : Bool),v49 = .bool x49_7 ∧ Aside0 (laws_FnOrdersOfPlaces.j0 kq l1 t455 t456 t463 x49_7 t459 t460 = some r) ∧ Aside0 (kq ≤ k) ∧ Aside0 (Kd.R (Kd.int .i64) 3 wc w.heap.size (fun k_=>some k_ ≠ ((.slice Ao14 t460.length co14) : Value).ownBlock ∧ some k_ ≠ ((.slice Ao19 t466.length co19) : Value).ownBlock) (.slice Ao10 t456.length co10) t456) ∧ Aside0 (Kd.R (Kd.int .i64) 3 wc w.heap.size (fun k_=>some k_ ≠ ((.slice Ao10 t456.length co10) : Value).ownBlock ∧ some k_ ≠ ((.slice Ao19 t466.length co19) : Value).ownBlock) (.slice Ao14 t460.length co14) t460) ∧ Aside0 (Kd.R (Kd.int .i64) 3 wc w.heap.size (fun k_=>some k_ ≠ ((.slice Ao10 t456.length co10) : Value).ownBlock ∧ some k_ ≠ ((.slice Ao14 t460.length co14) : Value).ownBlock) (.slice Ao19 t466.length co19) t466) ∧ Aside0 (wc.heap[gb464]? = some (.cells #[.int .i64 t459,(.slice Ao14 t460.length co14)] 26 (0,0))) ∧ Aside0 (wc.heap[gb470]? = some (.cells #[.int .i64 t465,(.slice Ao19 t466.length co19)] 26 (0,0))) ∧ Aside0 (Below w.heap.size w wc))
  case first =>
   have H:=HC8.out;clear HC8;by_cases c20 : (t463 != t469) = true
   ·rw [if_pos c20] at H;have c20b0 : (t463 != t469) = true:=c20;(try (have c20b1 : decide (t463 = t469) = false:=by simpa using c20));(try (have c20b2 : (t463 == t469) = false:=by simpa using c20));(try (have c20b3 : ¬ (t463 = t469):=by simpa using c20));clear c20;(first|rw [c20b0]|(simp only [i64_w,i32_w];rw [c20b0])|skip)
    have H':=A_ H;clear H;go_wp2
    go_meet
    case rel=>exact ⟨_,(true),(by first|rfl|(simp;done)|(simp [*];done)),H',⟨by first|omega|exact Nat.le_refl _⟩,⟨by (with_reducible repeat (first|apply Kd.R_alloc|apply Kd.R_drewN|apply Kd.R_drew));exact Kd.R_mono (Kd.R_far (p:=⟨gb470,1,none⟩) (Kd.R_far (p:=⟨gb470,0,none⟩) (Kd.R_types HO458.out BK470.out (by decide)) (fun _ hk=>hk.2) (.int .i64 t465)) (fun _ hk=>hk.2) (.slice Ao19 t466.length co19)) (fun _ hk=>⟨hk.1.1.2,hk.1.2⟩)⟩,⟨by (with_reducible repeat (first|apply Kd.R_alloc|apply Kd.R_drewN|apply Kd.R_drew));exact Kd.R_mono (Kd.R_far (p:=⟨gb470,1,none⟩) (Kd.R_far (p:=⟨gb470,0,none⟩) (Kd.R_types HO462.out BK470.out (by decide)) (fun _ hk=>hk.2) (.int .i64 t465)) (fun _ hk=>hk.2) (.slice Ao19 t466.length co19)) (fun _ hk=>⟨hk.1.1.2,hk.1.2⟩)⟩,⟨by (with_reducible repeat (first|apply Kd.R_alloc|apply Kd.R_drewN|apply Kd.R_drew));exact Kd.R_mono (Kd.R_far (p:=⟨gb470,1,none⟩) (Kd.R_far (p:=⟨gb470,0,none⟩) (Kd.R_types HO468.out BK470.out (by decide)) (fun _ hk=>hk.2) (.int .i64 t465)) (fun _ hk=>hk.2) (.slice Ao19 t466.length co19)) (fun _ hk=>⟨hk.1.1.2,hk.1.2⟩)⟩,⟨by (with_reducible repeat (first|refine blk_drewN ?_ _|refine blk_drew ?_|refine blk_alloc ?_ _));refine blk_far ?_ NB464_470.out _;(with_reducible repeat (first|refine blk_drewN ?_ _|refine blk_drew ?_|refine blk_alloc ?_ _));refine blk_far ?_ NB464_470.out _;(with_reducible repeat (first|refine blk_drewN ?_ _|refine blk_drew ?_|refine blk_alloc ?_ _));exact BK464.out⟩,⟨by (with_reducible repeat (first|refine blk_drewN ?_ _|refine blk_drew ?_|refine blk_alloc ?_ _));refine blk_put (cs:=#[.int .i64 t465,.slice none 0 0]) ?_ 1 _ rfl;(with_reducible repeat (first|refine blk_drewN ?_ _|refine blk_drew ?_|refine blk_alloc ?_ _));refine blk_put (cs:=#[.int .i64 0,.slice none 0 0]) ?_ 0 _ rfl;(with_reducible repeat (first|refine blk_drewN ?_ _|refine blk_drew ?_|refine blk_alloc ?_ _));exact BK470.out⟩,⟨bb_⟩⟩
   ·rw [if_neg c20] at H;have c20b0 : (t463 != t469) = false:=by simpa using c20
    (try (have c20b1 : decide (t463 = t469) = true:=by simpa using c20));(try (have c20b2 : (t463 == t469) = true:=by simpa using c20));clear c20;(first|rw [c20b0]|(simp only [i64_w,i32_w];rw [c20b0])|skip)
    replace H:=Option.bind_eq_some_iff.mp H;obtain ⟨t471,A210,H⟩:=H;replace H : (laws_FnOrdersOfPlaces.j0 k l1 t455 t456 t463 (!t471) t459 t460) = some r:=H;have A21:=A_ A210;clear A210;have H':=A_ H;clear H;have hnb22:=NB464_470.out;have hnc22:=NB470_464.out;have hcz23_0 : w16.cell? ⟨gb464,0,none⟩ = some (.int .i64 t459):=blk_cell BK464.out 0;have hcz23_1 : w16.cell? ⟨gb464,1,none⟩ = some (.slice Ao14 t460.length co14):=blk_cell BK464.out 1;have hfz23_0:=blk_frozen BK464.out 0;have hfz23_1:=blk_frozen BK464.out 1;have hcz24_0 : w16.cell? ⟨gb470,0,none⟩ = some (.int .i64 0):=blk_cell BK470.out 0;have hcz24_1 : w16.cell? ⟨gb470,1,none⟩ = some (.slice none 0 0):=blk_cell BK470.out 1;have hfz24_0:=blk_frozen BK470.out 0;have hfz24_1:=blk_frozen BK470.out 1;go_wp2_with (first|(go_at_call 24;(with_reducible refine (laws_vOrder.calls k t459 _ _ t460 t465 _ _ t466 t471 _ ?side1 ?side2 ?side3 ?side4 A21.out).mono ?_);(case side1=>refine (Kd.R_reads' (e:=3) (base:=w.heap.size) (ok:=fun k_=>((True ∧ some k_ ≠ (.slice Ao10 t456.length co10 : Value).ownBlock) ∧ some k_ ≠ (.slice Ao19 t466.length co19 : Value).ownBlock)) (n:=t460.length) (c:=co14) ?_).2.2;exact (by (with_reducible repeat (first|apply Kd.R_alloc|apply Kd.R_drewN|apply Kd.R_drew));exact (Kd.R_mono (Kd.R_far (p:=⟨gb470,1,none⟩) (Kd.R_far (p:=⟨gb470,0,none⟩) (Kd.R_types HO462.out BK470.out (by decide)) (fun _ hk=>hk.2) (.int .i64 t465)) (fun _ hk=>hk.2) (.slice Ao19 t466.length co19)) (fun _ h_=>h_.1))));(case side2=>exact (Kd.R_reads' HO462.out).2.1);(case side3=>refine (Kd.R_reads' (e:=3) (base:=w.heap.size) (ok:=fun k_=>((True ∧ some k_ ≠ (.slice Ao10 t456.length co10 : Value).ownBlock) ∧ some k_ ≠ (.slice Ao14 t460.length co14 : Value).ownBlock)) (n:=t466.length) (c:=co19) ?_).2.2;exact (by (with_reducible repeat (first|apply Kd.R_alloc|apply Kd.R_drewN|apply Kd.R_drew));exact (Kd.R_mono (Kd.R_far (p:=⟨gb470,1,none⟩) (Kd.R_far (p:=⟨gb470,0,none⟩) (Kd.R_types HO468.out BK470.out (by decide)) (fun _ hk=>hk.2) (.int .i64 t465)) (fun _ hk=>hk.2) (.slice Ao19 t466.length co19)) (fun _ h_=>h_.1))));(case side4=>exact (Kd.R_reads' HO468.out).2.1);rintro e w25 ⟨rfl,hb⟩;replace HO458:=A_ (Kd.R_below (by (with_reducible repeat (first|apply Kd.R_alloc|apply Kd.R_drewN|apply Kd.R_drew));exact (Kd.R_mono (Kd.R_far (p:=⟨gb470,1,none⟩) (Kd.R_far (p:=⟨gb470,0,none⟩) (Kd.R_types HO458.out BK470.out (by decide)) (fun _ hk=>hk.2) (.int .i64 t465)) (fun _ hk=>hk.2) (.slice Ao19 t466.length co19)) (fun _ h_=>h_.1))) hb);replace HO462:=A_ (Kd.R_below (by (with_reducible repeat (first|apply Kd.R_alloc|apply Kd.R_drewN|apply Kd.R_drew));exact (Kd.R_mono (Kd.R_far (p:=⟨gb470,1,none⟩) (Kd.R_far (p:=⟨gb470,0,none⟩) (Kd.R_types HO462.out BK470.out (by decide)) (fun _ hk=>hk.2) (.int .i64 t465)) (fun _ hk=>hk.2) (.slice Ao19 t466.length co19)) (fun _ h_=>h_.1))) hb);replace HO468:=A_ (Kd.R_below (by (with_reducible repeat (first|apply Kd.R_alloc|apply Kd.R_drewN|apply Kd.R_drew));exact (Kd.R_mono (Kd.R_far (p:=⟨gb470,1,none⟩) (Kd.R_far (p:=⟨gb470,0,none⟩) (Kd.R_types HO468.out BK470.out (by decide)) (fun _ hk=>hk.2) (.int .i64 t465)) (fun _ hk=>hk.2) (.slice Ao19 t466.length co19)) (fun _ h_=>h_.1))) hb);replace BK464:=A_ (blk_below (g:=gb464) (o:=.cells #[.int .i64 t459,.slice Ao14 t460.length co14] 26 (0,0)) (by (with_reducible repeat (first|refine blk_drewN ?_ _|refine blk_drew ?_|refine blk_alloc ?_ _));refine blk_far ?_ NB464_470.out _;(with_reducible repeat (first|refine blk_drewN ?_ _|refine blk_drew ?_|refine blk_alloc ?_ _));refine blk_far ?_ NB464_470.out _;(with_reducible repeat (first|refine blk_drewN ?_ _|refine blk_drew ?_|refine blk_alloc ?_ _));exact BK464.out) hb);replace BK470:=A_ (blk_below (g:=gb470) (o:=.cells #[.int .i64 t465,.slice Ao19 t466.length co19] 26 (0,0)) (by (with_reducible repeat (first|refine blk_drewN ?_ _|refine blk_drew ?_|refine blk_alloc ?_ _));refine blk_put (cs:=#[.int .i64 t465,.slice none 0 0]) ?_ 1 _ rfl;(with_reducible repeat (first|refine blk_drewN ?_ _|refine blk_drew ?_|refine blk_alloc ?_ _));refine blk_put (cs:=#[.int .i64 0,.slice none 0 0]) ?_ 0 _ rfl;(with_reducible repeat (first|refine blk_drewN ?_ _|refine blk_drew ?_|refine blk_alloc ?_ _));exact BK470.out) hb);replace HB:=A_ (below_step bb_ hb);(try clear hb);(try clear hb2);(try clear hk);(try clear hi)))
    go_meet
    case rel=>exact ⟨_,(!t471),(by first|rfl|(simp;done)|(simp [*];done)),H',⟨by first|omega|exact Nat.le_refl _⟩,⟨by (with_reducible repeat (first|apply Kd.R_alloc|apply Kd.R_drewN|apply Kd.R_drew));exact Kd.R_mono HO458.out (fun _ hk=>⟨hk.1.2,hk.2⟩)⟩,⟨by (with_reducible repeat (first|apply Kd.R_alloc|apply Kd.R_drewN|apply Kd.R_drew));exact Kd.R_mono HO462.out (fun _ hk=>⟨hk.1.2,hk.2⟩)⟩,⟨by (with_reducible repeat (first|apply Kd.R_alloc|apply Kd.R_drewN|apply Kd.R_drew));exact Kd.R_mono HO468.out (fun _ hk=>⟨hk.1.2,hk.2⟩)⟩,⟨bl_ BK464⟩,⟨bl_ BK470⟩,⟨bb_⟩⟩
  case rest =>
   clear HC8;try clear c1
   try clear c2
   try clear p2
   try clear c4
   try clear c17
   try clear c20
   try clear c20b0
   try clear c20b1
   try clear c20b2
   try clear c21
   try clear c22
   try clear c23
   try clear hcz13_0
   try clear hcz13_1
   try clear hcz18_0
   try clear hcz18_1
   try clear hcz23_0
   try clear hcz23_1
   try clear hcz24_0
   try clear hcz24_1
   try clear hfz13_0
   try clear hfz13_1
   try clear hfz18_0
   try clear hfz18_1
   try clear hfz23_0
   try clear hfz23_1
   try clear hfz24_0
   try clear hfz24_1
   obtain ⟨kq,x49_7,rfl,HA,HJ7,HO_6,HO_465001,HO_471001,BK464,BK470,HB⟩:=hcut;cases kq with
   | zero=>exact absurd HA.out (by simp [laws_FnOrdersOfPlaces.j0])
   | succ kj7 =>
    have H:=HA.out;clear HA;simp only [laws_FnOrdersOfPlaces.j0] at H
    by_cases c26 : x49_7 = true
    ·subst c26;have H1 : (some false) = some r:=by rw [if_pos rfl] at H;exact H
     clear H;have H:=H1;clear H1;obtain rfl:=Option.some.inj H;go_wp2
     go_ret
     exact ⟨by first|rfl|(simp [errW_none,errW_some] <;> rfl)|(simp [*,errW_none,errW_some] <;> rfl),bb_⟩
    ·replace c26:=Bool.eq_false_iff.mpr c26;subst c26;have H1 : (if t463 = true then ((impl_IsSemiorder.f kj7 t459 t460).bind fun bt472=>((impl_IsPlaces.f kj7 t459 t460 t455 t456).bind fun bt474=>(if bt472.2 = true then (if bt472.1 = true then (if bt474.2 = true then (laws_FnOrdersOfPlaces.j1 kj7 l1 t455 t456 (!bt474.1) t459 t460) else (laws_FnOrdersOfPlaces.j1 kj7 l1 t455 t456 true t459 t460)) else (laws_FnOrdersOfPlaces.j1 kj7 l1 t455 t456 true t459 t460)) else (laws_FnOrdersOfPlaces.j1 kj7 l1 t455 t456 true t459 t460)))) else (some true)) = some r:=by rw [if_neg (show ¬ (false = true) by decide)] at H;exact H
     clear H;have H:=H1;clear H1;by_cases c27 : t463 = true
     ·subst c27;have H1 : ((impl_IsSemiorder.f kj7 t459 t460).bind fun bt472=>((impl_IsPlaces.f kj7 t459 t460 t455 t456).bind fun bt474=>(if bt472.2 = true then (if bt472.1 = true then (if bt474.2 = true then (laws_FnOrdersOfPlaces.j1 kj7 l1 t455 t456 (!bt474.1) t459 t460) else (laws_FnOrdersOfPlaces.j1 kj7 l1 t455 t456 true t459 t460)) else (laws_FnOrdersOfPlaces.j1 kj7 l1 t455 t456 true t459 t460)) else (laws_FnOrdersOfPlaces.j1 kj7 l1 t455 t456 true t459 t460)))) = some r:=by rw [if_pos rfl] at H;exact H
      clear H;have H:=H1;clear H1;replace H:=Option.bind_eq_some_iff.mp H;obtain ⟨⟨t472,t473⟩,A280,H⟩:=H;replace H : ((impl_IsPlaces.f kj7 t459 t460 t455 t456).bind fun bt474=>(if t473 = true then (if t472 = true then (if bt474.2 = true then (laws_FnOrdersOfPlaces.j1 kj7 l1 t455 t456 (!bt474.1) t459 t460) else (laws_FnOrdersOfPlaces.j1 kj7 l1 t455 t456 true t459 t460)) else (laws_FnOrdersOfPlaces.j1 kj7 l1 t455 t456 true t459 t460)) else (laws_FnOrdersOfPlaces.j1 kj7 l1 t455 t456 true t459 t460))) = some r:=H;have A28:=A_ A280;clear A280;replace H:=Option.bind_eq_some_iff.mp H;obtain ⟨⟨t474,t475⟩,A290,H⟩:=H;replace H : (if t473 = true then (if t472 = true then (if t475 = true then (laws_FnOrdersOfPlaces.j1 kj7 l1 t455 t456 (!t474) t459 t460) else (laws_FnOrdersOfPlaces.j1 kj7 l1 t455 t456 true t459 t460)) else (laws_FnOrdersOfPlaces.j1 kj7 l1 t455 t456 true t459 t460)) else (laws_FnOrdersOfPlaces.j1 kj7 l1 t455 t456 true t459 t460)) = some r:=H;have A29:=A_ A290;clear A290;have HC30:=A_ H;clear H;have hnb31:=NB464_470.out;have hnc31:=NB470_464.out;have hcz32_0 : wc.cell? ⟨gb464,0,none⟩ = some (.int .i64 t459):=blk_cell BK464.out 0;have hcz32_1 : wc.cell? ⟨gb464,1,none⟩ = some (.slice Ao14 t460.length co14):=blk_cell BK464.out 1;have hfz32_0:=blk_frozen BK464.out 0;have hfz32_1:=blk_frozen BK464.out 1;go_upto_region 12 with (first|((with_reducible refine gate_callee (f:=25) rfl ?_);refine goesL_ (some 54) rfl rfl Tryd.func25 (by kernel_rfl) rfl #[.agg #[.int .i64 t459,.slice Ao14 t460.length co14]] rfl au_ ?_;(with_reducible refine (impl_IsSemiorder.calls kj7 t459 _ _ t460 t472 t473 _ ?side1 ?side2 ?side3 A28.out).mono ?_);(case side1=>exact cl_ (Kd.R_reads' HO_465001.out).2.2);(case side2=>exact (Kd.R_reads' HO_465001.out).2.1);(case side3=>first|exact HT.out|exact HT.out.below bb_|(repeat (first|exact HT.out|apply TabOK.drewN|apply TabOK.drew|apply TabOK.alloc)));rintro e w33 ⟨rfl,hb⟩;refine ⟨_,rfl,?_⟩;replace HO_6:=rb_ HO_6 hb;replace HO_465001:=rb_ HO_465001 hb;replace HO_471001:=rb_ HO_471001 hb;replace BK464:=bz BK464 hb;replace BK470:=bz BK470 hb;replace HB:=A_ (below_step bb_ hb);(try clear hb);(try clear hb2);(try clear hk);(try clear hi);have hcz34_0 : w33.cell? ⟨gb464,0,none⟩ = some (.int .i64 t459):=blk_cell BK464.out 0;have hcz34_1 : w33.cell? ⟨gb464,1,none⟩ = some (.slice Ao14 t460.length co14):=blk_cell BK464.out 1;have hfz34_0:=blk_frozen BK464.out 0;have hfz34_1:=blk_frozen BK464.out 1)|((with_reducible refine gate_callee (f:=26) rfl ?_);refine goesL_ (some 61) rfl rfl Tryd.func26 (by kernel_rfl) rfl #[.agg #[.int .i64 t459,.slice Ao14 t460.length co14],.int .i64 t455,.slice Ao10 t456.length co10] rfl au_ ?_;(with_reducible refine (impl_IsPlaces.calls kj7 t459 _ _ t460 t455 _ _ t456 t474 t475 _ ?side1 ?side2 ?side3 ?side4 ?side5 A29.out).mono ?_);(case side1=>exact cl_ (Kd.R_reads' HO_465001.out).2.2);(case side2=>exact (Kd.R_reads' HO_465001.out).2.1);(case side3=>exact cl_ (Kd.R_reads' HO_6.out).2.2);(case side4=>exact (Kd.R_reads' HO_6.out).2.1);(case side5=>first|exact HT.out|exact HT.out.below bb_|(repeat (first|exact HT.out|apply TabOK.drewN|apply TabOK.drew|apply TabOK.alloc)));rintro e w35 ⟨rfl,hb⟩;refine ⟨_,rfl,?_⟩;replace HO_6:=rb_ HO_6 hb;replace HO_465001:=rb_ HO_465001 hb;replace HO_471001:=rb_ HO_471001 hb;replace BK464:=bz BK464 hb;replace BK470:=bz BK470 hb;replace HB:=A_ (below_step bb_ hb);(try clear hb);(try clear hb2);(try clear hk);(try clear hi)))
      (try simp only [Act.put,L_,M_,N_]);go_cut [77] (fun v77 wc=>∃ (kq : Nat) (x77_29 : Bool),v77 = .bool x77_29 ∧ Aside0 (laws_FnOrdersOfPlaces.j1 kq l1 t455 t456 x77_29 t459 t460 = some r) ∧ Aside0 (kq ≤ kj7) ∧ Aside0 (Kd.R (Kd.int .i64) 3 wc w.heap.size (fun k_=>some k_ ≠ ((.slice Ao14 t460.length co14) : Value).ownBlock ∧ some k_ ≠ ((.slice Ao19 t466.length co19) : Value).ownBlock) (.slice Ao10 t456.length co10) t456) ∧ Aside0 (Kd.R (Kd.int .i64) 3 wc w.heap.size (fun k_=>some k_ ≠ ((.slice Ao10 t456.length co10) : Value).ownBlock ∧ some k_ ≠ ((.slice Ao19 t466.length co19) : Value).ownBlock) (.slice Ao14 t460.length co14) t460) ∧ Aside0 (Kd.R (Kd.int .i64) 3 wc w.heap.size (fun k_=>some k_ ≠ ((.slice Ao10 t456.length co10) : Value).ownBlock ∧ some k_ ≠ ((.slice Ao14 t460.length co14) : Value).ownBlock) (.slice Ao19 t466.length co19) t466) ∧ Aside0 (wc.heap[gb464]? = some (.cells #[.int .i64 t459,(.slice Ao14 t460.length co14)] 26 (0,0))) ∧ Aside0 (wc.heap[gb470]? = some (.cells #[.int .i64 t465,(.slice Ao19 t466.length co19)] 26 (0,0))) ∧ Aside0 (Below w.heap.size w wc))
      case first =>
       have H:=HC30.out;clear HC30;by_cases c36 : t473 = true
       ·subst c36;have H1 : (if t472 = true then (if t475 = true then (laws_FnOrdersOfPlaces.j1 kj7 l1 t455 t456 (!t474) t459 t460) else (laws_FnOrdersOfPlaces.j1 kj7 l1 t455 t456 true t459 t460)) else (laws_FnOrdersOfPlaces.j1 kj7 l1 t455 t456 true t459 t460)) = some r:=by rw [if_pos rfl] at H;exact H
        clear H;have H:=H1;clear H1;by_cases c37 : t472 = true
        ·subst c37;have H1 : (if t475 = true then (laws_FnOrdersOfPlaces.j1 kj7 l1 t455 t456 (!t474) t459 t460) else (laws_FnOrdersOfPlaces.j1 kj7 l1 t455 t456 true t459 t460)) = some r:=by rw [if_pos rfl] at H;exact H
         clear H;have H:=H1;clear H1;by_cases c38 : t475 = true
         ·subst c38;have H1 : (laws_FnOrdersOfPlaces.j1 kj7 l1 t455 t456 (!t474) t459 t460) = some r:=by rw [if_pos rfl] at H;exact H
          clear H;have H:=H1;clear H1;have H':=A_ H;clear H;go_wp2
          go_meet
          case rel=>exact ⟨_,(!t474),(by first|rfl|(simp;done)|(simp [*];done)),H',⟨by have:=HJ7.out;first|omega|exact Nat.le_refl _⟩,⟨by (with_reducible repeat (first|apply Kd.R_alloc|apply Kd.R_drewN|apply Kd.R_drew));exact HO_6.out⟩,⟨by (with_reducible repeat (first|apply Kd.R_alloc|apply Kd.R_drewN|apply Kd.R_drew));exact HO_465001.out⟩,⟨by (with_reducible repeat (first|apply Kd.R_alloc|apply Kd.R_drewN|apply Kd.R_drew));exact HO_471001.out⟩,⟨bl_ BK464⟩,⟨bl_ BK470⟩,⟨bb_⟩⟩
         ·replace c38:=Bool.eq_false_iff.mpr c38;subst c38;have H1 : (laws_FnOrdersOfPlaces.j1 kj7 l1 t455 t456 true t459 t460) = some r:=by rw [if_neg (show ¬ (false = true) by decide)] at H;exact H
          clear H;have H:=H1;clear H1;have H':=A_ H;clear H;go_wp2
          go_meet
          case rel=>exact ⟨_,(true),(by first|rfl|(simp;done)|(simp [*];done)),H',⟨by have:=HJ7.out;first|omega|exact Nat.le_refl _⟩,⟨by (with_reducible repeat (first|apply Kd.R_alloc|apply Kd.R_drewN|apply Kd.R_drew));exact HO_6.out⟩,⟨by (with_reducible repeat (first|apply Kd.R_alloc|apply Kd.R_drewN|apply Kd.R_drew));exact HO_465001.out⟩,⟨by (with_reducible repeat (first|apply Kd.R_alloc|apply Kd.R_drewN|apply Kd.R_drew));exact HO_471001.out⟩,⟨bl_ BK464⟩,⟨bl_ BK470⟩,⟨bb_⟩⟩
        ·replace c37:=Bool.eq_false_iff.mpr c37;subst c37;have H1 : (laws_FnOrdersOfPlaces.j1 kj7 l1 t455 t456 true t459 t460) = some r:=by rw [if_neg (show ¬ (false = true) by decide)] at H;exact H
         clear H;have H:=H1;clear H1;have H':=A_ H;clear H;go_wp2
         go_meet
         case rel=>exact ⟨_,(true),(by first|rfl|(simp;done)|(simp [*];done)),H',⟨by have:=HJ7.out;first|omega|exact Nat.le_refl _⟩,⟨by (with_reducible repeat (first|apply Kd.R_alloc|apply Kd.R_drewN|apply Kd.R_drew));exact HO_6.out⟩,⟨by (with_reducible repeat (first|apply Kd.R_alloc|apply Kd.R_drewN|apply Kd.R_drew));exact HO_465001.out⟩,⟨by (with_reducible repeat (first|apply Kd.R_alloc|apply Kd.R_drewN|apply Kd.R_drew));exact HO_471001.out⟩,⟨bl_ BK464⟩,⟨bl_ BK470⟩,⟨bb_⟩⟩
       ·replace c36:=Bool.eq_false_iff.mpr c36;subst c36;have H1 : (laws_FnOrdersOfPlaces.j1 kj7 l1 t455 t456 true t459 t460) = some r:=by rw [if_neg (show ¬ (false = true) by decide)] at H;exact H
        clear H;have H:=H1;clear H1;have H':=A_ H;clear H;go_wp2
        go_meet
        case rel=>exact ⟨_,(true),(by first|rfl|(simp;done)|(simp [*];done)),H',⟨by have:=HJ7.out;first|omega|exact Nat.le_refl _⟩,⟨by (with_reducible repeat (first|apply Kd.R_alloc|apply Kd.R_drewN|apply Kd.R_drew));exact HO_6.out⟩,⟨by (with_reducible repeat (first|apply Kd.R_alloc|apply Kd.R_drewN|apply Kd.R_drew));exact HO_465001.out⟩,⟨by (with_reducible repeat (first|apply Kd.R_alloc|apply Kd.R_drewN|apply Kd.R_drew));exact HO_471001.out⟩,⟨bl_ BK464⟩,⟨bl_ BK470⟩,⟨bb_⟩⟩
      case rest =>
       clear HC30;try clear c1
       try clear c2
       try clear p2
       try clear c3
       try clear c4
       try clear c17
       try clear c20
       try clear c20b0
       try clear c20b1
       try clear c20b2
       try clear c21
       try clear c22
       try clear c23
       try clear c25
       try clear c26
       try clear c27
       try clear c31
       try clear c36
       try clear c37
       try clear c38
       try clear hcz13_0
       try clear hcz13_1
       try clear hcz18_0
       try clear hcz18_1
       try clear hcz23_0
       try clear hcz23_1
       try clear hcz24_0
       try clear hcz24_1
       try clear hcz32_0
       try clear hcz32_1
       try clear hcz34_0
       try clear hcz34_1
       try clear hfz13_0
       try clear hfz13_1
       try clear hfz18_0
       try clear hfz18_1
       try clear hfz23_0
       try clear hfz23_1
       try clear hfz24_0
       try clear hfz24_1
       try clear hfz32_0
       try clear hfz32_1
       try clear hfz34_0
       try clear hfz34_1
       try clear p2
       obtain ⟨kq,x77_29,rfl,HA,HJ29,HO_6,HO_465001,HO_471001,BK464,BK470,HB⟩:=hcut;cases kq with
       | zero=>exact absurd HA.out (by simp [laws_FnOrdersOfPlaces.j1])
       | succ kj29 =>
        have H:=HA.out;clear HA;simp only [laws_FnOrdersOfPlaces.j1] at H
        by_cases c39 : x77_29 = true
        ·subst c39;have H1 : (some false) = some r:=by rw [if_pos rfl] at H;exact H
         clear H;have H:=H1;clear H1;obtain rfl:=Option.some.inj H;go_wp2
         go_ret
         exact ⟨by first|rfl|(simp [errW_none,errW_some] <;> rfl)|(simp [*,errW_none,errW_some] <;> rfl),bb_⟩
        ·replace c39:=Bool.eq_false_iff.mpr c39;subst c39;have H1 : ((laws_vNumber.f kj29 l1).bind fun t476=>(laws_FnOrdersOfPlaces.l0 kj29 t455 (Int.tmod t476 50) ([] : List Int) t456 (t456.length : Int) 0 t459 t460)) = some r:=by rw [if_neg (show ¬ (false = true) by decide)] at H;exact H
         clear H;have H:=H1;clear H1;replace H:=Option.bind_eq_some_iff.mp H;obtain ⟨t476,A400,H⟩:=H;replace H : (laws_FnOrdersOfPlaces.l0 kj29 t455 (Int.tmod t476 50) ([] : List Int) t456 (t456.length : Int) 0 t459 t460) = some r:=H;have A40:=A_ A400;clear A400;have H':=A_ H;clear H;go_wp2_with (first|((with_reducible refine gate_callee (f:=27) rfl ?_);refine goesL_ (some 79) rfl rfl Tryd.func27 (by kernel_rfl) rfl #[.slice A1 l1.length c1] rfl au_ ?_;(with_reducible refine (laws_vNumber.calls kj29 _ _ l1 t476 _ ?side1 ?side2 A40.out).mono ?_);(case side1=>exact cl_ (Kd.C_below HR1.out HB.out));(case side2=>exact HC1.out);rintro e w' ⟨rfl,⟨nd,rfl⟩⟩;refine ⟨_,rfl,?_⟩))
         go_loopg [16,83] kj29 (fun kq v16 v83 w'=>∃ (x16_3 : List Int) (x83_3 : Int),v83 = .int .i64 x83_3 ∧ Aside0 (laws_FnOrdersOfPlaces.l0 kq t455 (Int.tmod t476 50) x16_3 t456 (t456.length : Int) x83_3 t459 t460 = some r) ∧ Aside0 (kq ≤ kj29) ∧ Aside0 (Kd.R (Kd.int .i64) 3 w' w.heap.size (fun k_=>some k_ ≠ ((.slice Ao10 t456.length co10) : Value).ownBlock ∧ some k_ ≠ ((.slice Ao14 t460.length co14) : Value).ownBlock ∧ some k_ ≠ ((.slice Ao19 t466.length co19) : Value).ownBlock) v16 x16_3) ∧ Aside0 (Kd.R (Kd.int .i64) 3 w' w.heap.size (fun k_=>some k_ ≠ (v16 : Value).ownBlock ∧ some k_ ≠ ((.slice Ao14 t460.length co14) : Value).ownBlock ∧ some k_ ≠ ((.slice Ao19 t466.length co19) : Value).ownBlock) (.slice Ao10 t456.length co10) t456) ∧ Aside0 (Kd.R (Kd.int .i64) 3 w' w.heap.size (fun k_=>some k_ ≠ (v16 : Value).ownBlock ∧ some k_ ≠ ((.slice Ao10 t456.length co10) : Value).ownBlock ∧ some k_ ≠ ((.slice Ao19 t466.length co19) : Value).ownBlock) (.slice Ao14 t460.length co14) t460) ∧ Aside0 (Kd.R (Kd.int .i64) 3 w' w.heap.size (fun k_=>some k_ ≠ (v16 : Value).ownBlock ∧ some k_ ≠ ((.slice Ao10 t456.length co10) : Value).ownBlock ∧ some k_ ≠ ((.slice Ao14 t460.length co14) : Value).ownBlock) (.slice Ao19 t466.length co19) t466) ∧ Aside0 (w'.heap[gb464]? = some (.cells #[.int .i64 t459,(.slice Ao14 t460.length co14)] 26 (0,0))) ∧ Aside0 (w'.heap[gb470]? = some (.cells #[.int .i64 t465,(.slice Ao19 t466.length co19)] 26 (0,0))) ∧ Aside0 (Below w.heap.size w w'))
         case atStart=>exact ⟨(([] : List Int)),(0),(by first|rfl|(simp;done)|(simp [*];done)),H',⟨Nat.le_refl _⟩,⟨by first|exact Kd.R_nil _ _ _ _ _|exact Kd.N_nil _ _ _ _ _|exact Kd.V_nil _ _ _ _ _|exact Kd.Q_nil _ _ _ _ _|exact Kd.S_nil _ _ _ _ _⟩,⟨by (with_reducible repeat (first|apply Kd.R_alloc|apply Kd.R_drewN|apply Kd.R_drew));exact Kd.R_mono HO_6.out (fun _ hk=>⟨(by simp [Value.ownBlock]),⟨hk.1,hk.2⟩⟩)⟩,⟨by (with_reducible repeat (first|apply Kd.R_alloc|apply Kd.R_drewN|apply Kd.R_drew));exact Kd.R_mono HO_465001.out (fun _ hk=>⟨(by simp [Value.ownBlock]),⟨hk.1,hk.2⟩⟩)⟩,⟨by (with_reducible repeat (first|apply Kd.R_alloc|apply Kd.R_drewN|apply Kd.R_drew));exact Kd.R_mono HO_471001.out (fun _ hk=>⟨(by simp [Value.ownBlock]),⟨hk.1,hk.2⟩⟩)⟩,⟨bl_ BK464⟩,⟨bl_ BK470⟩,⟨bb_⟩⟩
         case round =>
          clear H';try clear c1
          try clear c2
          try clear p2
          try clear c3
          try clear c4
          try clear c17
          try clear c20
          try clear c20b0
          try clear c20b1
          try clear c20b2
          try clear c21
          try clear c22
          try clear c23
          try clear c25
          try clear c26
          try clear c27
          try clear c31
          try clear c36
          try clear c37
          try clear c38
          try clear c39
          try clear hcz13_0
          try clear hcz13_1
          try clear hcz18_0
          try clear hcz18_1
          try clear hcz23_0
          try clear hcz23_1
          try clear hcz24_0
          try clear hcz24_1
          try clear hcz32_0
          try clear hcz32_1
          try clear hcz34_0
          try clear hcz34_1
          try clear hfz13_0
          try clear hfz13_1
          try clear hfz18_0
          try clear hfz18_1
          try clear hfz23_0
          try clear hfz23_1
          try clear hfz24_0
          try clear hfz24_1
          try clear hfz32_0
          try clear hfz32_1
          try clear hfz34_0
          try clear hfz34_1
          try clear p2
          obtain ⟨x16_3,x83_3,rfl,HA,HK3,HO_16,HO_81,HO_465001,HO_471001,BK464,BK470,HB⟩:=hrel;cases gk with
          | zero=>exact absurd HA.out (by simp [laws_FnOrdersOfPlaces.l0])
          | succ k3 =>
           have H:=HA.out;clear HA;simp only [laws_FnOrdersOfPlaces.l0] at H
           by_cases c41 : x83_3 < (t456.length : Int)
           ·rw [if_pos c41] at H;have c41b0 : decide (x83_3 < (t456.length : Int)) = true:=decide_eq_true c41;clear c41;by_cases c42 : 0 ≤ x83_3
            ·rw [if_pos c42] at H;have c42b0 : decide (0 ≤ x83_3) = true:=decide_eq_true c42;clear c42;by_cases c43 : x83_3 < (t456.length : Int)
             ·rw [if_pos c43] at H;have c43b0 : decide (x83_3 < (t456.length : Int)) = true:=decide_eq_true c43;clear c43;by_cases c44 : (wrap64 ((rd t456 x83_3) + (Int.tmod t476 50))) > 1000
              ·rw [if_pos c44] at H;have c44b0 : decide (1000 < (wrap64 ((rd t456 x83_3) + (Int.tmod t476 50)))) = true:=decide_eq_true c44;clear c44;obtain rfl:=Option.some.inj H;have p477 : 0 ≤ (x83_3 : Int):=of_decide_eq_true (by first|(with_reducible assumption)|assumption);have q477 : x83_3 < (t456.length : Int):=of_decide_eq_true (by first|(with_reducible assumption)|assumption);obtain ⟨ad477,e477,hx477_0⟩:=Kd.at_int (Kd.R_reads' HO_81.out).2.2 x83_3 p477 q477;cases e477
               replace p477:=eq_true p477;replace q477:=eq_true q477;go_wp2
               go_ret
               exact ⟨by first|rfl|(simp [errW_none,errW_some] <;> rfl)|(simp [*,errW_none,errW_some] <;> rfl),bb_⟩
              ·rw [if_neg c44] at H;have c44b0 : decide (1000 < (wrap64 ((rd t456 x83_3) + (Int.tmod t476 50)))) = false:=decide_eq_false c44;clear c44;by_cases c45 : x16_3.length < 17592186044416
               ·rw [if_pos c45] at H;have LMc45:=A_ c45;clear c45;obtain ⟨y478,hy478⟩ : ∃ y_ : List Int,y_ = (x16_3 ++ [wrap64 ((rd t456 x83_3) + (Int.tmod t476 50))]):=⟨_,rfl⟩;replace H : (laws_FnOrdersOfPlaces.l0 k3 t455 (Int.tmod t476 50) y478 t456 (t456.length : Int) (wrap64 (x83_3 + 1)) t459 t460) = some r:=by first|(rw [hy478];with_reducible exact H)|(have H2_:=(Option.bind_some _ _).symm.trans H;rw [hy478];with_reducible exact H2_)|(have H2_:=(Option.bind_some _ _).symm.trans H;with_reducible exact H2_)|with_reducible exact H|(rw [hy478];exact H)|exact H
                have Ny478:=A_ hy478;clear hy478;have H':=A_ H;clear H;have p477 : 0 ≤ (x83_3 : Int):=of_decide_eq_true (by first|(with_reducible assumption)|assumption);have q477 : x83_3 < (t456.length : Int):=of_decide_eq_true (by first|(with_reducible assumption)|assumption);obtain ⟨ad477,e477,hx477_0⟩:=Kd.at_int (Kd.R_reads' HO_81.out).2.2 x83_3 p477 q477;cases e477
                replace p477:=eq_true p477;replace q477:=eq_true q477;go_wp2_with (first|((with_reducible refine gate_builtin (b:=.append) (xs:=#[.tmp 91,.tmp 95]) rfl ?_);at_builtin;refine Kd.R_append (Kd.int .i64) (w0:=w) w.heap.size rfl (.tmp 91) (.tmp 95) 22 3 (.int .i64 0) 8 rfl Tryd.underlying22 info3 rfl (by decide) (by omega) u16 x16_3 (wrap64 ((rd t456 x83_3) + (Int.tmod t476 50))) [.int .i64 (wrap64 ((rd t456 x83_3) + (Int.tmod t476 50)))] (fun k_=>some k_ ≠ (.slice (some ad477) t456.length co10 : Value).ownBlock ∧ some k_ ≠ (.slice Ao14 t460.length co14 : Value).ownBlock ∧ some k_ ≠ (.slice Ao19 t466.length co19 : Value).ownBlock) (fun _=>False) rfl rfl ?aP (fun _ hk=>hk.elim) ?aF ?aO ?aB ?aS ?aL ?_;(case aP=>exact rfl);(case aB=>exact bb_);(case aF=>exact (fun k_ hk=>⟨Kd.fresh' (Kd.R_lt (rl_ HO_81)) k_ hk,Kd.fresh' (Kd.R_lt (rl_ HO_465001)) k_ hk,Kd.fresh' (Kd.R_lt (rl_ HO_471001)) k_ hk⟩));(case aO=>exact (rl_ HO_16));(case aS=>exact (below_size bb_));(case aL=>have:=LMc45.out;omega);intro v479 w46 ho hb hg hat;rw [← Ny478.out] at ho;replace HO_81:=A_ (Kd.R_after (ok:=(fun k_=>some k_ ≠ (.slice Ao14 t460.length co14 : Value).ownBlock ∧ some k_ ≠ (.slice Ao19 t466.length co19 : Value).ownBlock)) (by (with_reducible repeat (first|apply Kd.R_alloc|apply Kd.R_drewN|apply Kd.R_drew));exact Kd.R_mono HO_81.out (fun _ hk=>⟨⟨hk.2.1,hk.2.2⟩,hk.1⟩)) hg hat);replace HO_465001:=A_ (Kd.R_after (ok:=(fun k_=>some k_ ≠ (.slice (some ad477) t456.length co10 : Value).ownBlock ∧ some k_ ≠ (.slice Ao19 t466.length co19 : Value).ownBlock)) (by (with_reducible repeat (first|apply Kd.R_alloc|apply Kd.R_drewN|apply Kd.R_drew));exact Kd.R_mono HO_465001.out (fun _ hk=>⟨⟨hk.2.1,hk.2.2⟩,hk.1⟩)) hg hat);replace HO_471001:=A_ (Kd.R_after (ok:=(fun k_=>some k_ ≠ (.slice (some ad477) t456.length co10 : Value).ownBlock ∧ some k_ ≠ (.slice Ao14 t460.length co14 : Value).ownBlock)) (by (with_reducible repeat (first|apply Kd.R_alloc|apply Kd.R_drewN|apply Kd.R_drew));exact Kd.R_mono HO_471001.out (fun _ hk=>⟨⟨hk.2.1,hk.2.2⟩,hk.1⟩)) hg hat);replace BK464:=A_ (blk_grown (g:=gb464) (o:=.cells #[.int .i64 t459,.slice Ao14 t460.length co14] 26 (0,0)) (bl_ BK464) hg (Kd.R_ne HO_16.out BK464.out (by decide)));replace BK470:=A_ (blk_grown (g:=gb470) (o:=.cells #[.int .i64 t465,.slice Ao19 t466.length co19] 26 (0,0)) (bl_ BK470) hg (Kd.R_ne HO_16.out BK470.out (by decide)));replace HB:=A_ (hb);have HO480:=A_ (ho);clear HO_16;clear ho hb hg hat))
                go_roundg k3
                case measure=>have:=HJ7.out;have:=HJ29.out;have:=HK3.out;omega
                case rel=>exact ⟨(y478),(wrap64 (x83_3 + 1)),(by first|rfl|(simp;done)|(simp [*];done)),H',⟨by have:=HJ7.out;have:=HJ29.out;have:=HK3.out;omega⟩,⟨by (with_reducible repeat (first|apply Kd.R_alloc|apply Kd.R_drewN|apply Kd.R_drew));exact HO480.out⟩,⟨by (with_reducible repeat (first|apply Kd.R_alloc|apply Kd.R_drewN|apply Kd.R_drew));exact Kd.R_mono HO_81.out (fun _ hk=>⟨hk.2,⟨hk.1.1,hk.1.2⟩⟩)⟩,⟨by (with_reducible repeat (first|apply Kd.R_alloc|apply Kd.R_drewN|apply Kd.R_drew));exact Kd.R_mono HO_465001.out (fun _ hk=>⟨hk.2,⟨hk.1.1,hk.1.2⟩⟩)⟩,⟨by (with_reducible repeat (first|apply Kd.R_alloc|apply Kd.R_drewN|apply Kd.R_drew));exact Kd.R_mono HO_471001.out (fun _ hk=>⟨hk.2,⟨hk.1.1,hk.1.2⟩⟩)⟩,⟨bl_ BK464⟩,⟨bl_ BK470⟩,⟨bb_⟩⟩
               ·rw [if_neg c45] at H;exact absurd H (by simp)
             ·rw [if_neg c43] at H;exact absurd H (by simp)
            ·rw [if_neg c42] at H;exact absurd H (by simp)
           ·rw [if_neg c41] at H;have c41b0 : decide (x83_3 < (t456.length : Int)) = false:=decide_eq_false c41;clear c41;replace H:=Option.bind_eq_some_iff.mp H;obtain ⟨⟨t481,t482,t485⟩,A470,H⟩:=H;replace H : (if t485 = true then ((laws_vOrder.f k3 t481 t482 t459 t460).bind fun t487=>(some t487)) else (some false)) = some r:=H;have A47:=A_ A470;clear A470;by_cases c48 : t485 = true
            ·subst c48;have H1 : ((laws_vOrder.f k3 t481 t482 t459 t460).bind fun t487=>(some t487)) = some r:=by rw [if_pos rfl] at H;exact H
             clear H;have H:=H1;clear H1;replace H:=Option.bind_eq_some_iff.mp H;obtain ⟨t487,A490,H⟩:=H;replace H : (some t487) = some r:=H;have A49:=A_ A490;clear A490;obtain rfl:=Option.some.inj H;obtain ⟨Ao50,co50,eo50⟩:=Kd.R_slice HO_16.out;subst eo50;go_wp2_with (first|((with_reducible refine gate_callee (f:=22) rfl ?_);refine goesL_ (some 101) rfl rfl Tryd.func22 (by kernel_rfl) rfl #[.int .i64 t455,.slice Ao50 x16_3.length co50] rfl au_ ?_;(with_reducible refine (impl_OrderOfPlaces.calls k3 t455 _ _ x16_3 t481 t482 true _ ?side1 ?side2 A47.out).mono ?_);(case side1=>exact cl_ (Kd.R_reads' HO_16.out).2.2);(case side2=>exact (Kd.R_reads' HO_16.out).2.1);rintro e w51 ⟨v483,rfl,ho0,hb⟩;refine ⟨_,rfl,?_⟩;have HO484:=A_ (Kd.R_lower (Kd.R_new' (Kd.R_new' (Kd.R_new' (Kd.R_new' ho0 (Kd.R_lt (rl_ HO_16))) (Kd.R_lt (rl_ HO_81))) (Kd.R_lt (rl_ HO_465001))) (Kd.R_lt (rl_ HO_471001))) (below_size bb_));replace HO_16:=A_ (Kd.R_elder' (rl_ HO_16) (Kd.R_base ho0) hb);replace HO_81:=A_ (Kd.R_elder' (rl_ HO_81) (Kd.R_base ho0) hb);replace HO_465001:=A_ (Kd.R_elder' (rl_ HO_465001) (Kd.R_base ho0) hb);replace HO_471001:=A_ (Kd.R_elder' (rl_ HO_471001) (Kd.R_base ho0) hb);replace BK464:=bz BK464 hb;replace BK470:=bz BK470 hb;replace HB:=A_ (below_step bb_ hb);(try clear hb);(try clear hb2);(try clear hk);(try clear hi);(try clear ho0))|((with_reducible refine gate_dst (N:=19) rfl ?_);refine box_event ?hg (N:=19) ?hd (cs:=#[.int .i64 0,.slice none 0 0]) (t:=26) ?hr ?_;(case hd=>rfl);(case hg=>rfl);(case hr=>first|(go_simp;done)|(go_simp;rfl));intro gb486 hg w52 hbox hb;replace HO_16:=rb_ HO_16 hb;replace HO_81:=rb_ HO_81 hb;replace HO_465001:=rb_ HO_465001 hb;replace HO_471001:=rb_ HO_471001 hb;replace HO484:=rb_ HO484 hb;have BK486:=A_ (hbox);have GW486:=A_ ((by rw [hg];exact (below_size bb_) : w.heap.size ≤ gb486));have GE486:=A_ ((by rw [hg];exact (below_size bb_) : w.heap.size ≤ gb486));replace HB:=A_ (below_step bb_ hb);have NB464_486:=A_ ((by rw [hg];exact Nat.ne_of_lt (blk_lt (bl_ BK464)) : gb464 ≠ gb486));have NB486_464:=A_ ((by rw [hg];exact Nat.ne_of_gt (blk_lt (bl_ BK464)) : gb486 ≠ gb464));replace BK464:=bz BK464 hb;have NB470_486:=A_ ((by rw [hg];exact Nat.ne_of_lt (blk_lt (bl_ BK470)) : gb470 ≠ gb486));have NB486_470:=A_ ((by rw [hg];exact Nat.ne_of_gt (blk_lt (bl_ BK470)) : gb486 ≠ gb470));replace BK470:=bz BK470 hb;clear hb hbox hg;have hnb53:=NB486_464.out;have hnc53:=NB464_486.out;have hnb54:=NB486_470.out;have hnc54:=NB470_486.out;have hcz55_0 : w52.cell? ⟨gb486,0,none⟩ = some (.int .i64 0):=blk_cell BK486.out 0;have hcz55_1 : w52.cell? ⟨gb486,1,none⟩ = some (.slice none 0 0):=blk_cell BK486.out 1;have hfz55_0:=blk_frozen BK486.out 0;have hfz55_1:=blk_frozen BK486.out 1;obtain ⟨Ao56,co56,eo56⟩:=Kd.R_slice HO484.out;subst eo56;have hnb57:=NB464_470.out;have hnc57:=NB470_464.out;have hcz58_0 : w52.cell? ⟨gb464,0,none⟩ = some (.int .i64 t459):=blk_cell BK464.out 0;have hcz58_1 : w52.cell? ⟨gb464,1,none⟩ = some (.slice Ao14 t460.length co14):=blk_cell BK464.out 1;have hfz58_0:=blk_frozen BK464.out 0;have hfz58_1:=blk_frozen BK464.out 1)|(go_at_call 24;(with_reducible refine (laws_vOrder.calls k3 t481 _ _ t482 t459 _ _ t460 t487 _ ?side1 ?side2 ?side3 ?side4 A49.out).mono ?_);(case side1=>refine (Kd.R_reads' (e:=3) (base:=w.heap.size) (ok:=fun k_=>((((True ∧ some k_ ≠ (.slice Ao50 x16_3.length co50 : Value).ownBlock) ∧ some k_ ≠ (.slice Ao10 t456.length co10 : Value).ownBlock) ∧ some k_ ≠ (.slice Ao14 t460.length co14 : Value).ownBlock) ∧ some k_ ≠ (.slice Ao19 t466.length co19 : Value).ownBlock)) (n:=t482.length) (c:=co56) ?_).2.2;exact (by (with_reducible repeat (first|apply Kd.R_alloc|apply Kd.R_drewN|apply Kd.R_drew));exact (Kd.R_mono (Kd.R_far (p:=⟨gb486,1,none⟩) (Kd.R_far (p:=⟨gb486,0,none⟩) (Kd.R_types HO484.out BK486.out (by decide)) (fun _ hk=>hk.2) (.int .i64 t481)) (fun _ hk=>hk.2) (.slice Ao56 t482.length co56)) (fun _ h_=>h_.1))));(case side2=>exact (Kd.R_reads' HO484.out).2.1);(case side3=>refine (Kd.R_reads' (e:=3) (base:=w.heap.size) (ok:=fun k_=>((some k_ ≠ (.slice Ao50 x16_3.length co50 : Value).ownBlock ∧ (some k_ ≠ (.slice Ao10 t456.length co10 : Value).ownBlock ∧ some k_ ≠ (.slice Ao19 t466.length co19 : Value).ownBlock)) ∧ some k_ ≠ (.slice Ao56 t482.length co56 : Value).ownBlock)) (n:=t460.length) (c:=co14) ?_).2.2;exact (by (with_reducible repeat (first|apply Kd.R_alloc|apply Kd.R_drewN|apply Kd.R_drew));exact (Kd.R_mono (Kd.R_far (p:=⟨gb486,1,none⟩) (Kd.R_far (p:=⟨gb486,0,none⟩) (Kd.R_types HO_465001.out BK486.out (by decide)) (fun _ hk=>hk.2) (.int .i64 t481)) (fun _ hk=>hk.2) (.slice Ao56 t482.length co56)) (fun _ h_=>h_.1))));(case side4=>exact (Kd.R_reads' HO_465001.out).2.1);rintro e w59 ⟨rfl,hb⟩;replace HO_16:=A_ (Kd.R_below (by (with_reducible repeat (first|apply Kd.R_alloc|apply Kd.R_drewN|apply Kd.R_drew));exact (Kd.R_mono (Kd.R_far (p:=⟨gb486,1,none⟩) (Kd.R_far (p:=⟨gb486,0,none⟩) (Kd.R_types HO_16.out BK486.out (by decide)) (fun _ hk=>hk.2) (.int .i64 t481)) (fun _ hk=>hk.2) (.slice Ao56 t482.length co56)) (fun _ h_=>h_.1))) hb);replace HO_81:=A_ (Kd.R_below (by (with_reducible repeat (first|apply Kd.R_alloc|apply Kd.R_drewN|apply Kd.R_drew));exact (Kd.R_mono (Kd.R_far (p:=⟨gb486,1,none⟩) (Kd.R_far (p:=⟨gb486,0,none⟩) (Kd.R_types HO_81.out BK486.out (by decide)) (fun _ hk=>hk.2) (.int .i64 t481)) (fun _ hk=>hk.2) (.slice Ao56 t482.length co56)) (fun _ h_=>h_.1))) hb);replace HO_465001:=A_ (Kd.R_below (by (with_reducible repeat (first|apply Kd.R_alloc|apply Kd.R_drewN|apply Kd.R_drew));exact (Kd.R_mono (Kd.R_far (p:=⟨gb486,1,none⟩) (Kd.R_far (p:=⟨gb486,0,none⟩) (Kd.R_types HO_465001.out BK486.out (by decide)) (fun _ hk=>hk.2) (.int .i64 t481)) (fun _ hk=>hk.2) (.slice Ao56 t482.length co56)) (fun _ h_=>h_.1))) hb);replace HO_471001:=A_ (Kd.R_below (by (with_reducible repeat (first|apply Kd.R_alloc|apply Kd.R_drewN|apply Kd.R_drew));exact (Kd.R_mono (Kd.R_far (p:=⟨gb486,1,none⟩) (Kd.R_far (p:=⟨gb486,0,none⟩) (Kd.R_types HO_471001.out BK486.out (by decide)) (fun _ hk=>hk.2) (.int .i64 t481)) (fun _ hk=>hk.2) (.slice Ao56 t482.length co56)) (fun _ h_=>h_.1))) hb);replace HO484:=A_ (Kd.R_below (by (with_reducible repeat (first|apply Kd.R_alloc|apply Kd.R_drewN|apply Kd.R_drew));exact (Kd.R_mono (Kd.R_far (p:=⟨gb486,1,none⟩) (Kd.R_far (p:=⟨gb486,0,none⟩) (Kd.R_types HO484.out BK486.out (by decide)) (fun _ hk=>hk.2) (.int .i64 t481)) (fun _ hk=>hk.2) (.slice Ao56 t482.length co56)) (fun _ h_=>h_.1))) hb);replace BK464:=A_ (blk_below (g:=gb464) (o:=.cells #[.int .i64 t459,.slice Ao14 t460.length co14] 26 (0,0)) (by (with_reducible repeat (first|refine blk_drewN ?_ _|refine blk_drew ?_|refine blk_alloc ?_ _));refine blk_far ?_ NB464_486.out _;(with_reducible repeat (first|refine blk_drewN ?_ _|refine blk_drew ?_|refine blk_alloc ?_ _));refine blk_far ?_ NB464_486.out _;(with_reducible repeat (first|refine blk_drewN ?_ _|refine blk_drew ?_|refine blk_alloc ?_ _));exact BK464.out) hb);replace BK470:=A_ (blk_below (g:=gb470) (o:=.cells #[.int .i64 t465,.slice Ao19 t466.length co19] 26 (0,0)) (by (with_reducible repeat (first|refine blk_drewN ?_ _|refine blk_drew ?_|refine blk_alloc ?_ _));refine blk_far ?_ NB470_486.out _;(with_reducible repeat (first|refine blk_drewN ?_ _|refine blk_drew ?_|refine blk_alloc ?_ _));refine blk_far ?_ NB470_486.out _;(with_reducible repeat (first|refine blk_drewN ?_ _|refine blk_drew ?_|refine blk_alloc ?_ _));exact BK470.out) hb);replace BK486:=A_ (blk_below (g:=gb486) (o:=.cells #[.int .i64 t481,.slice Ao56 t482.length co56] 26 (0,0)) (by (with_reducible repeat (first|refine blk_drewN ?_ _|refine blk_drew ?_|refine blk_alloc ?_ _));refine blk_put (cs:=#[.int .i64 t481,.slice none 0 0]) ?_ 1 _ rfl;(with_reducible repeat (first|refine blk_drewN ?_ _|refine blk_drew ?_|refine blk_alloc ?_ _));refine blk_put (cs:=#[.int .i64 0,.slice none 0 0]) ?_ 0 _ rfl;(with_reducible repeat (first|refine blk_drewN ?_ _|refine blk_drew ?_|refine blk_alloc ?_ _));exact BK486.out) hb);replace HB:=A_ (below_step bb_ hb);(try clear hb);(try clear hb2);(try clear hk);(try clear hi)))
             go_ret
             exact ⟨by first|rfl|(simp [errW_none,errW_some] <;> rfl)|(simp [*,errW_none,errW_some] <;> rfl),bb_⟩
            ·replace c48:=Bool.eq_false_iff.mpr c48;subst c48;have H1 : (some false) = some r:=by rw [if_neg (show ¬ (false = true) by decide)] at H;exact H
             clear H;have H:=H1;clear H1;obtain rfl:=Option.some.inj H;obtain ⟨Ao60,co60,eo60⟩:=Kd.R_slice HO_16.out;subst eo60;go_wp2_with (first|((with_reducible refine gate_callee (f:=22) rfl ?_);refine goesL_ (some 101) rfl rfl Tryd.func22 (by kernel_rfl) rfl #[.int .i64 t455,.slice Ao60 x16_3.length co60] rfl au_ ?_;(with_reducible refine (impl_OrderOfPlaces.calls k3 t455 _ _ x16_3 t481 t482 false _ ?side1 ?side2 A47.out).mono ?_);(case side1=>exact cl_ (Kd.R_reads' HO_16.out).2.2);(case side2=>exact (Kd.R_reads' HO_16.out).2.1);rintro e w61 ⟨v483,rfl,ho0,hb⟩;refine ⟨_,rfl,?_⟩;have HO484:=A_ (Kd.R_lower (Kd.R_new' (Kd.R_new' (Kd.R_new' (Kd.R_new' ho0 (Kd.R_lt (rl_ HO_16))) (Kd.R_lt (rl_ HO_81))) (Kd.R_lt (rl_ HO_465001))) (Kd.R_lt (rl_ HO_471001))) (below_size bb_));replace HO_16:=A_ (Kd.R_elder' (rl_ HO_16) (Kd.R_base ho0) hb);replace HO_81:=A_ (Kd.R_elder' (rl_ HO_81) (Kd.R_base ho0) hb);replace HO_465001:=A_ (Kd.R_elder' (rl_ HO_465001) (Kd.R_base ho0) hb);replace HO_471001:=A_ (Kd.R_elder' (rl_ HO_471001) (Kd.R_base ho0) hb);replace BK464:=bz BK464 hb;replace BK470:=bz BK470 hb;replace HB:=A_ (below_step bb_ hb);(try clear hb);(try clear hb2);(try clear hk);(try clear hi);(try clear ho0))|((with_reducible refine gate_dst (N:=19) rfl ?_);refine box_event ?hg (N:=19) ?hd (cs:=#[.int .i64 0,.slice none 0 0]) (t:=26) ?hr ?_;(case hd=>rfl);(case hg=>rfl);(case hr=>first|(go_simp;done)|(go_simp;rfl));intro gb486 hg w62 hbox hb;replace HO_16:=rb_ HO_16 hb;replace HO_81:=rb_ HO_81 hb;replace HO_465001:=rb_ HO_465001 hb;replace HO_471001:=rb_ HO_471001 hb;replace HO484:=rb_ HO484 hb;have BK486:=A_ (hbox);have GW486:=A_ ((by rw [hg];exact (below_size bb_) : w.heap.size ≤ gb486));have GE486:=A_ ((by rw [hg];exact (below_size bb_) : w.heap.size ≤ gb486));replace HB:=A_ (below_step bb_ hb);have NB464_486:=A_ ((by rw [hg];exact Nat.ne_of_lt (blk_lt (bl_ BK464)) : gb464 ≠ gb486));have NB486_464:=A_ ((by rw [hg];exact Nat.ne_of_gt (blk_lt (bl_ BK464)) : gb486 ≠ gb464));replace BK464:=bz BK464 hb;have NB470_486:=A_ ((by rw [hg];exact Nat.ne_of_lt (blk_lt (bl_ BK470)) : gb470 ≠ gb486));have NB486_470:=A_ ((by rw [hg];exact Nat.ne_of_gt (blk_lt (bl_ BK470)) : gb486 ≠ gb470));replace BK470:=bz BK470 hb;clear hb hbox hg;have hnb63:=NB486_464.out;have hnc63:=NB464_486.out;have hnb64:=NB486_470.out;have hnc64:=NB470_486.out;have hcz65_0 : w62.cell? ⟨gb486,0,none⟩ = some (.int .i64 0):=blk_cell BK486.out 0;have hcz65_1 : w62.cell? ⟨gb486,1,none⟩ = some (.slice none 0 0):=blk_cell BK486.out 1;have hfz65_0:=blk_frozen BK486.out 0;have hfz65_1:=blk_frozen BK486.out 1;obtain ⟨Ao66,co66,eo66⟩:=Kd.R_slice HO484.out;subst eo66))
             go_ret
             exact ⟨by first|rfl|(simp [errW_none,errW_some] <;> rfl)|(simp [*,errW_none,errW_some] <;> rfl),bb_⟩
     ·replace c27:=Bool.eq_false_iff.mpr c27;subst c27;have H1 : (some true) = some r:=by rw [if_neg (show ¬ (false = true) by decide)] at H;exact H
      clear H;have H:=H1;clear H1;obtain rfl:=Option.some.inj H;go_wp2
      go_ret
      exact ⟨by first|rfl|(simp [errW_none,errW_some] <;> rfl)|(simp [*,errW_none,errW_some] <;> rfl),bb_⟩
def laws_FnOrdersOfPlaces.Pure : Prop := ∀ (l0 : List Int) (l1 : List Int), l0.length ≤ maxLen → l0.length * 1 ≤ 140737488351232 → (∀ x ∈ l0, (Lit.int .u8 x).wf = true) → l1.length ≤ maxLen → l1.length * 1 ≤ 140737488351232 → (∀ x ∈ l1, (Lit.int .u8 x).wf = true) → ∃ k, laws_FnOrdersOfPlaces.f k l0 l1 = some true
theorem laws_FnOrdersOfPlaces.walk (P : laws_FnOrdersOfPlaces.Pure) (a0 : Option Addr) (len0 cap0 : Nat) (z0 : List Int) (a1 : Option Addr) (len1 cap1 : Nat) (z1 : List Int) (w : World) (w0 : (a0 = none ∧ len0 = 0 ∧ cap0 = 0 ∧ z0 = []) ∨ ∃ x,a0 = some x ∧ len0 ≤ cap0 ∧ cap0 ≤ maxLen ∧ z0.length = cap0 ∧ (∀ i,i < z0.length → w.cell? (x.add i) = some (.int .u8 (z0.getD i 0))) ∧ ∀ n ∈ z0,(Lit.int .u8 n).wf = true) (y0 : len0 * 1 ≤ 140737488351232) (w1 : (a1 = none ∧ len1 = 0 ∧ cap1 = 0 ∧ z1 = []) ∨ ∃ x,a1 = some x ∧ len1 ≤ cap1 ∧ cap1 ≤ maxLen ∧ z1.length = cap1 ∧ (∀ i,i < z1.length → w.cell? (x.add i) = some (.int .u8 (z1.getD i 0))) ∧ ∀ n ∈ z1,(Lit.int .u8 n).wf = true) (y1 : len1 * 1 ≤ 140737488351232) (hT : TabOK w) :
 Calls Tryd.prog 4 #[.slice a0 len0 cap0,.slice a1 len1 cap1] w fun e w'=>e = .returned (.bool true) ∧ Below w.heap.size w w':=by
 obtain ⟨l0,rfl,hr0,hm0,hw0,hc0⟩:=ReadsInt.ofRowC w0;obtain ⟨l1,rfl,hr1,hm1,hw1,hc1⟩:=ReadsInt.ofRowC w1;obtain ⟨k,h⟩:=P l0 l1 hm0 y0 hw0 hm1 y1 hw1;refine (laws_FnOrdersOfPlaces.calls k _ _ l0 _ _ l1 true w (Kd.C_of_reads (d:=(0 : Int)) (h1:=fun _=>rfl) hr0) hc0 (Kd.C_of_reads (d:=(0 : Int)) (h1:=fun _=>rfl) hr1) hc1 hT h).mono ?_
 rintro e w' ⟨rfl,hd⟩
 exact ⟨rfl,hd⟩
end Go.Proofs.YtjdkcafpgebjfaaDoor.P
namespace Go.Proofs.YtjdkcafpgebjfaaDoor.M
open Go.RowKit Go.Proofs.YtjdkcafpgebjfaaDoorW.PrintMore Go.Proofs.YtjdkcafpgebjfaaDoorW.PrintLast Go.Proofs.YtjdkcafpgebjfaaDoorW.PrintWords
theorem i64_small (n : Nat) (h : n < 9223372036854775808) : IntKind.i64.wrap (n : Int) = (n : Int) := by
  simp [IntKind.wrap, IntKind.signed, IntKind.bits]
  omega
theorem wrap64_id (x : Int) (h0 : -9223372036854775808 ≤ x) (h1 : x ≤ 9223372036854775807) : wrap64 x = x := by
  unfold wrap64
  omega
theorem ofInt64 (a : Nat) (ha : a < 18446744073709551616) : (BitVec.ofInt 64 (a : Int)).toNat = a := by
  rw [BitVec.ofInt_natCast, BitVec.toNat_ofNat]; exact Nat.mod_eq_of_lt (by omega)
theorem and_i64 (a b : Nat) (ha : a < 9223372036854775808) (hb : b < 9223372036854775808) : Go.bits .and .i64 (a : Int) (b : Int) = ((a &&& b : Nat) : Int) := by
  have hx : a &&& b < 2 ^ 63 := Nat.and_lt_two_pow _ (by omega)
  show IntKind.i64.wrap ((BitVec.ofInt 64 (a : Int) &&& BitVec.ofInt 64 (b : Int)).toNat : Int) = _
  rw [BitVec.toNat_and, ofInt64 a (by omega), ofInt64 b (by omega), i64_small _ (by omega)]
theorem or_i64 (a b : Nat) (ha : a < 9223372036854775808) (hb : b < 9223372036854775808) : Go.bits .or .i64 (a : Int) (b : Int) = ((a ||| b : Nat) : Int) := by
  have hx : a ||| b < 2 ^ 63 := Nat.or_lt_two_pow (by omega) (by omega)
  show IntKind.i64.wrap ((BitVec.ofInt 64 (a : Int) ||| BitVec.ofInt 64 (b : Int)).toNat : Int) = _
  rw [BitVec.toNat_or, ofInt64 a (by omega), ofInt64 b (by omega), i64_small _ (by omega)]
def diff (a b : Nat) : Nat := a &&& (a ^^^ b)
theorem testBit_diff (a b i : Nat) : (diff a b).testBit i = (a.testBit i && !b.testBit i) := by
  unfold diff
  rw [Nat.testBit_and, Nat.testBit_xor]
  cases a.testBit i <;> cases b.testBit i <;> rfl
theorem andNot_i64 (a b : Nat) (ha : a < 9223372036854775808) (hb : b < 9223372036854775808) : Go.bits .andNot .i64 (a : Int) (b : Int) = ((diff a b : Nat) : Int) := by
  have hx : diff a b < 2 ^ 63 := Nat.lt_of_le_of_lt Nat.and_le_left (by omega)
  show IntKind.i64.wrap ((BitVec.ofInt 64 (a : Int) &&& ~~~ BitVec.ofInt 64 (b : Int)).toNat : Int) = _
  have e : (BitVec.ofInt 64 (a : Int) &&& ~~~ BitVec.ofInt 64 (b : Int)).toNat = diff a b := by
    apply Nat.eq_of_testBit_eq
    intro i
    rw [BitVec.toNat_and, Nat.testBit_and, testBit_diff, ofInt64 a (by omega)]
    by_cases hi : i < 64
    · rw [show (~~~ BitVec.ofInt 64 (b : Int)).toNat.testBit i = !(BitVec.ofInt 64 (b : Int)).toNat.testBit i from by
        rw [BitVec.testBit_toNat, BitVec.testBit_toNat, BitVec.getLsbD_not]; simp [hi], ofInt64 b (by omega)]
    · rw [Nat.testBit_lt_two_pow (x := a) (i := i) (Nat.lt_of_lt_of_le (by omega : a < 2 ^ 64) (Nat.pow_le_pow_right (by decide) (by omega)))]
      rfl
  rw [e, i64_small _ (by omega)]
theorem shl1 (j : Nat) (h : j ≤ 62) : shl .i64 1 (j : Int) = ((2 ^ j : Nat) : Int) := by
  unfold shl
  have h2 : (2 : Nat) ^ j < 9223372036854775808 := Nat.lt_of_le_of_lt (Nat.pow_le_pow_right (by decide) h) (by decide)
  rw [Int.toNat_natCast, Nat.min_eq_left (by show j ≤ 64; omega), Int.one_mul]
  have := i64_small (2 ^ j) h2
  rwa [Int.natCast_pow] at this ⊢
theorem shr_nat (a j : Nat) (h : j ≤ 64) : shr .i64 (a : Int) (j : Int) = ((a / 2 ^ j : Nat) : Int) := by
  unfold shr
  rw [Int.toNat_natCast, Nat.min_eq_left (by exact h)]
  simp
def bit (s : Int) (j : Nat) : Bool := s.toNat.testBit j
theorem bit_cast (a j : Nat) : bit (a : Int) j = a.testBit j := by simp [bit]
theorem and_one (a : Nat) (j : Nat) : ((a / 2 ^ j) &&& 1 : Nat) = if a.testBit j then 1 else 0 := by
  rw [Nat.and_one_is_mod, Nat.testBit_eq_decide_div_mod_eq]
  rcases Nat.mod_two_eq_zero_or_one (a / 2 ^ j) with h | h <;> simp [h]
theorem has_and (s : Int) (j : Nat) (h0 : 0 ≤ s) (h1 : s < 9223372036854775808) (hj : j ≤ 64) : (Go.bits .and .i64 (shr .i64 s (j : Int)) 1 == 1) = bit s j := by
  obtain ⟨a, rfl⟩ := Int.eq_ofNat_of_zero_le h0
  have hl : a / 2 ^ j < 9223372036854775808 := Nat.lt_of_le_of_lt (Nat.div_le_self _ _) (by omega)
  rw [shr_nat a j hj, show (1 : Int) = ((1 : Nat) : Int) from rfl, and_i64 _ 1 hl (by decide), and_one, bit_cast]
  cases a.testBit j <;> rfl
theorem has_mod (s : Int) (j : Nat) (h0 : 0 ≤ s) (hj : j ≤ 64) : (Int.tmod (shr .i64 s (j : Int)) 2 == 1) = bit s j := by
  obtain ⟨a, rfl⟩ := Int.eq_ofNat_of_zero_le h0
  rw [shr_nat a j hj, bit_cast, Nat.testBit_eq_decide_div_mod_eq, Int.tmod_eq_emod_of_nonneg (Int.natCast_nonneg _)]
  rcases Nat.mod_two_eq_zero_or_one (a / 2 ^ j) with h | h
  · rw [show ((a / 2 ^ j : Nat) : Int) % 2 = 0 from by omega]; simp [h]
  · rw [show ((a / 2 ^ j : Nat) : Int) % 2 = 1 from by omega]; simp [h]
def setOf : Nat → (Nat → Bool) → Nat
  | 0, _ => 0
  | n + 1, q => setOf n q ||| (if q n then 2 ^ n else 0)
theorem testBit_setOf (n : Nat) (q : Nat → Bool) (j : Nat) : (setOf n q).testBit j = (decide (j < n) && q j) := by
  induction n with
  | zero => simp [setOf]
  | succ n ih =>
    unfold setOf
    rw [Nat.testBit_or, ih]
    by_cases hq : q n
    · rw [if_pos hq, Nat.testBit_two_pow]
      by_cases h : n = j
      · subst h; simp [hq]
      · have : (j < n + 1) ↔ j < n := by omega
        simp [h, this]
    · rw [if_neg hq]
      by_cases h : n = j
      · subst h; simp [hq]
      · have : (j < n + 1) ↔ j < n := by omega
        simp [this]
theorem setOf_lt (n : Nat) (q : Nat → Bool) : setOf n q < 2 ^ n := by
  induction n with
  | zero => simp [setOf]
  | succ n ih =>
    unfold setOf
    have h1 : setOf n q < 2 ^ (n + 1) := Nat.lt_of_lt_of_le ih (Nat.pow_le_pow_right (by decide) (by omega))
    refine Nat.or_lt_two_pow h1 ?_
    split
    · exact Nat.pow_lt_pow_right (by decide) (by omega)
    · exact Nat.two_pow_pos _
theorem setOf_congr {n : Nat} {q q' : Nat → Bool} (h : ∀ j, j < n → q j = q' j) : setOf n q = setOf n q' := by
  apply Nat.eq_of_testBit_eq
  intro j
  rw [testBit_setOf, testBit_setOf]
  by_cases hj : j < n
  · rw [h j hj]
  · simp [hj]
theorem lt62 {n s : Nat} (h : s < 2 ^ n) (hn : n ≤ 62) : s < 9223372036854775808 := Nat.lt_of_lt_of_le h (Nat.le_trans (Nat.pow_le_pow_right (by decide) hn) (by decide))
theorem setOf_62 (n : Nat) (q : Nat → Bool) (hn : n ≤ 62) : setOf n q < 9223372036854775808 := lt62 (setOf_lt n q) hn
end Go.Proofs.YtjdkcafpgebjfaaDoor.M
namespace Go.Proofs.YtjdkcafpgebjfaaDoor.M
open Go.RowKit Go.Proofs.YtjdkcafpgebjfaaDoorW.PrintMore Go.Proofs.YtjdkcafpgebjfaaDoorW.PrintLast Go.Proofs.YtjdkcafpgebjfaaDoorW.PrintWords
theorem Ev.up {α : Type} {r : α} (G : Nat → Nat → Option α) (n : Nat) (step : ∀ i, i < n → Ev (G (i + 1)) r → Ev (G i) r) (stop : Ev (G n) r) : Ev (G 0) r := by
  have key : ∀ m, m ≤ n → Ev (G (n - m)) r := by
    intro m
    induction m with
    | zero => intro _; exact stop
    | succ m ih =>
      intro hm
      have h := step (n - (m + 1)) (by omega)
      rw [show n - (m + 1) + 1 = n - m from by omega] at h
      exact h (ih (by omega))
  have := key n (Nat.le_refl _)
  rwa [Nat.sub_self] at this
theorem Ev.from {α : Type} {r : α} (G : Nat → Nat → Option α) (n i : Nat) (hi : i ≤ n) (step : ∀ i, i < n → Ev (G (i + 1)) r → Ev (G i) r) (stop : Ev (G n) r) : Ev (G i) r := by
  have h := Ev.up (fun j => G (i + j)) (n - i) (fun j hj h => step (i + j) (by omega) h) (by rw [show i + (n - i) = n from by omega]; exact stop)
  exact h
def allB (n : Nat) (p : Nat → Bool) : Bool := (List.range n).all p
theorem allB_iff {n : Nat} {p : Nat → Bool} : allB n p = true ↔ ∀ j, j < n → p j = true := by simp [allB]
theorem allB_false {n : Nat} {p : Nat → Bool} : allB n p = false ↔ ∃ j, j < n ∧ p j = false := by simp [allB]
theorem least_false {n : Nat} {p : Nat → Bool} (h : ∃ j, j < n ∧ p j = false) : ∃ j, j < n ∧ p j = false ∧ ∀ i, i < j → p i = true := by
  obtain ⟨j, hj, hp⟩ := h
  induction j using Nat.strongRecOn with
  | _ j ih =>
    by_cases hl : ∃ i, i < j ∧ p i = false
    · obtain ⟨i, hi, hpi⟩ := hl
      exact ih i hi (by omega) hpi
    · refine ⟨j, hj, hp, fun i hi => ?_⟩
      cases hc : p i with
      | true => rfl
      | false => exact absurd ⟨i, hi, hc⟩ hl
theorem Ev.all (G : Nat → Nat → Option Bool) (n : Nat) (p : Nat → Bool) (yes : ∀ i r, i < n → p i = true → Ev (G (i + 1)) r → Ev (G i) r) (no : ∀ i, i < n → p i = false → Ev (G i) false) (stop : Ev (G n) true) :
    Ev (G 0) (allB n p) := by
  cases h : allB n p with
  | true =>
    have h := allB_iff.1 h
    exact Ev.up G n (fun i hi => yes i true hi (h i hi)) stop
  | false =>
    obtain ⟨j, hj, hp, hl⟩ := least_false (allB_false.1 h)
    exact Ev.up G j (fun i hi => yes i false (by omega) (hl i hi)) (no j hj hp)
theorem Ev.const {α : Type} {x : Option α} {r : α} (h : x = some r) : Ev (fun _ => x) r := ⟨0, fun _ _ => h⟩
theorem Ev.to {α : Type} {g : Nat → Option α} {r r' : α} (h : Ev g r) (e : r = r') : Ev g r' := e ▸ h
theorem rd_nat (l : List Int) (i : Nat) : rd l (i : Int) = l.getD i 0 := by simp [rd]
theorem rd_get (l : List Int) (i : Nat) (h : i < l.length) : rd l (i : Int) = l[i] := by simp [rd, h]
theorem next64 (i n : Nat) (h : i < n) (hn : n ≤ 140737488355328) : wrap64 ((i : Int) + 1) = ((i + 1 : Nat) : Int) := by unfold wrap64; omega
theorem list_ext_getD {l l' : List Int} (hl : l.length = l'.length) (h : ∀ i, i < l.length → l.getD i 0 = l'.getD i 0) : l = l' := by
  apply List.ext_getElem hl
  intro i h1 h2
  have := h i h1
  simpa [h1, h2] using this
end Go.Proofs.YtjdkcafpgebjfaaDoor.M
namespace Go.Proofs.YtjdkcafpgebjfaaDoor.P
open Go.RowKit Go.Proofs.YtjdkcafpgebjfaaDoorW.PrintWords Go.Proofs.YtjdkcafpgebjfaaDoorW.PrintLast Go.Proofs.YtjdkcafpgebjfaaDoorW.PrintMore
open Bool renaming true → T, false → F
open List renaming setIfInBounds_toArray → L_, set_cons_zero → M_, set_cons_succ → N_, map_toArray → P_, map_cons → Q_, map_nil → R_, length_drop → S_, length_take → U_
open Aside0 renaming mk → A_
attribute [local go_sem] max2_int min2_int max_two min_two max_three min_three max_four min_four
set_option linter.unusedVariables false
set_option linter.unusedSimpArgs false
attribute [local go_sem] fldOrder_0 fldOrder_1
def spec_orHas.f (a0 : Int) (a1 : Int) : Option (Bool) := if 0 ≤ a1 then (some ((Int.tmod (shr .i64 a0 a1) 2) == 1)) else (none)
end Go.Proofs.YtjdkcafpgebjfaaDoor.P
namespace Go.Proofs.YtjdkcafpgebjfaaDoor.P
open Go.RowKit Go.Proofs.YtjdkcafpgebjfaaDoorW.PrintWords Go.Proofs.YtjdkcafpgebjfaaDoorW.PrintLast Go.Proofs.YtjdkcafpgebjfaaDoorW.PrintMore
open Bool renaming true → T, false → F
open List renaming setIfInBounds_toArray → L_, set_cons_zero → M_, set_cons_succ → N_, map_toArray → P_, map_cons → Q_, map_nil → R_, length_drop → S_, length_take → U_
open Aside0 renaming mk → A_
attribute [local go_sem] max2_int min2_int max_two min_two max_three min_three max_four min_four
set_option linter.unusedVariables false
set_option linter.unusedSimpArgs false
attribute [local go_sem] fldOrder_0 fldOrder_1
def spec_orList.l0 : Nat → Int → List Int → Int → Option (List Int)
 | 0,_,_,_=>none
 | k + 1,x0,x3,x4=>if 0 ≤ x4 then (if (shr .i64 x0 x4) > 0 then ((spec_orHas.f x0 x4).bind fun t108=>(if t108 = true then (if x3.length < 17592186044416 then (spec_orList.l0 k x0 (x3 ++ [x4]) (wrap64 (x4 + 1))) else (none)) else (spec_orList.l0 k x0 x3 (wrap64 (x4 + 1))))) else (some x3)) else (none)
def spec_orList.f (k : Nat) (a0 : Int) : Option (List Int) := spec_orList.l0 k a0 ([] : List Int) 0
end Go.Proofs.YtjdkcafpgebjfaaDoor.P
namespace Go.Proofs.YtjdkcafpgebjfaaDoor.M
open Go.RowKit Go.Proofs.YtjdkcafpgebjfaaDoorW.PrintMore Go.Proofs.YtjdkcafpgebjfaaDoorW.PrintLast Go.Proofs.YtjdkcafpgebjfaaDoorW.PrintWords Go.Proofs.YtjdkcafpgebjfaaDoor.P
def elems (n s : Nat) : List Nat := (List.range n).filter fun j => s.testBit j
theorem mem_elems {n s j : Nat} : j ∈ elems n s ↔ j < n ∧ s.testBit j = true := by simp [elems]
theorem elems_zero (n : Nat) : elems n 0 = [] := by simp [elems]
def ints (l : List Nat) : List Int := l.map fun (j : Nat) => (j : Int)
theorem ints_length (l : List Nat) : (ints l).length = l.length := by simp [ints]
theorem elems_length_le (n s : Nat) : (elems n s).length ≤ n := by
  unfold elems
  exact Nat.le_trans (List.length_filter_le _ _) (by simp)
theorem filter_range_split (n c : Nat) (h : c < n) (p : Nat → Bool) : (List.range n).filter p = (List.range c).filter p ++ ((if p c then [c] else []) ++ (List.range' (c + 1) (n - (c + 1))).filter p) := by
  have e : List.range n = List.range c ++ ([c] ++ List.range' (c + 1) (n - (c + 1))) := by
    rw [List.range_eq_range', List.range_eq_range']
    have h1 : n = c + (1 + (n - (c + 1))) := by omega
    have e1 : List.range' 0 n = List.range' 0 c ++ List.range' c (1 + (n - (c + 1))) := by
      have := List.range'_append_1 (s := 0) (m := c) (n := 1 + (n - (c + 1)))
      rw [Nat.zero_add] at this
      rw [this, ← h1]
    rw [e1, Nat.add_comm 1, List.range'_succ]
    rfl
  rw [e, List.filter_append, List.filter_append]
  congr 1
  cases hp : p c <;> simp [hp]
theorem elems_least (n s c m : Nat) (hs : s = 2 ^ c * (2 * m + 1)) (hn : s < 2 ^ n) : elems n s = c :: elems n (s &&& (s - 1)) := by
  have hp : 0 < 2 ^ c := Nat.two_pow_pos c
  have e1 : s - 1 = 2 ^ (c + 1) * m + (2 ^ c - 1) := by
    have a1 : 2 ^ c * (2 * m + 1) = 2 ^ (c + 1) * m + 2 ^ c := by rw [Nat.pow_succ, Nat.mul_add, Nat.mul_assoc]; simp
    omega
  have hb : ∀ j, s.testBit j = if j < c then false else if j = c then true else m.testBit (j - (c + 1)) := by
    intro j
    rw [hs, Nat.mul_comm, Nat.testBit_mul_two_pow]
    by_cases h1 : j < c
    · rw [if_pos h1]; simp; omega
    · rw [if_neg h1]
      by_cases h2 : j = c
      · subst h2; simp
      · rw [if_neg h2]
        obtain ⟨d, rfl⟩ : ∃ d, j = c + (d + 1) := ⟨j - c - 1, by omega⟩
        rw [show c + (d + 1) - c = d + 1 from by omega, show c + (d + 1) - (c + 1) = d from by omega, Nat.testBit_succ, show (2 * m + 1) / 2 = m from by omega]
        simp
  have hb1 : ∀ j, (s - 1).testBit j = if j < c then true else if j = c then false else m.testBit (j - (c + 1)) := by
    intro j
    rw [e1, Nat.testBit_two_pow_mul_add m (by have : 2 ^ c < 2 ^ (c + 1) := Nat.pow_lt_pow_right (by decide) (by omega); omega)]
    by_cases h1 : j < c
    · rw [if_pos (by omega), if_pos h1, Nat.testBit_two_pow_sub_one]; simp [h1]
    · rw [if_neg h1]
      by_cases h2 : j = c
      · subst h2; rw [if_pos (by omega), if_pos rfl, Nat.testBit_two_pow_sub_one]; simp
      · rw [if_neg (by omega), if_neg h2]
  have hb2 : ∀ j, (s &&& (s - 1)).testBit j = if j ≤ c then false else s.testBit j := by
    intro j
    rw [Nat.testBit_and, hb, hb1]
    by_cases h1 : j < c
    · simp [h1, Nat.le_of_lt h1]
    · by_cases h2 : j = c
      · simp [h2]
      · rw [if_neg h1, if_neg h1, if_neg h2, if_neg h2, if_neg (by omega)]; simp
  have hc : c < n := by
    apply Nat.lt_of_not_le
    intro hle
    have h1 : 2 ^ n ≤ 2 ^ c := Nat.pow_le_pow_right (by decide) hle
    have h2 : 2 ^ c ≤ s := by rw [hs]; exact Nat.le_mul_of_pos_right _ (by omega)
    omega
  unfold elems
  rw [filter_range_split n c hc, filter_range_split n c hc (fun j => (s &&& (s - 1)).testBit j)]
  have z1 : (List.range c).filter (fun j => s.testBit j) = [] := by
    rw [List.filter_eq_nil_iff]; intro j hj; simp at hj; rw [hb, if_pos hj]; simp
  have z2 : (List.range c).filter (fun j => (s &&& (s - 1)).testBit j) = [] := by
    rw [List.filter_eq_nil_iff]; intro j hj; simp at hj; rw [hb2, if_pos (by omega)]; simp
  have z3 : (List.range' (c + 1) (n - (c + 1))).filter (fun j => s.testBit j) = (List.range' (c + 1) (n - (c + 1))).filter (fun j => (s &&& (s - 1)).testBit j) := by
    apply List.filter_congr
    intro j hj
    rw [List.mem_range'] at hj
    obtain ⟨i, hi, rfl⟩ := hj
    rw [hb2, if_neg (by omega)]
  have y1 : s.testBit c = true := by rw [hb, if_neg (by omega), if_pos rfl]
  have y2 : (s &&& (s - 1)).testBit c = false := by rw [hb2, if_pos (Nat.le_refl _)]
  rw [z1, z2, z3, if_pos y1, y2]
  rfl
theorem and_pred_lt (s : Nat) (h : s ≠ 0) : s &&& (s - 1) < s := Nat.lt_of_le_of_lt Nat.and_le_right (by omega)
theorem u64_small (n : Nat) (h : n < 18446744073709551616) : IntKind.u64.wrap (n : Int) = (n : Int) := by
  simp [IntKind.wrap, IntKind.signed, IntKind.bits]
  omega
theorem members_ev (n : Nat) (hn : n ≤ 62) (s : Nat) (hs : s < 2 ^ n) : Ev (fun k => impl_members.f k (s : Int)) (ints (elems n s)) := by
  have key : ∀ d s, s ≤ d → s < 2 ^ n → ∀ acc : List Int, acc.length + (elems n s).length ≤ 64 → Ev (fun k => impl_members.l0 k (s : Int) acc) (acc ++ ints (elems n s)) := by
    intro d
    induction d with
    | zero =>
      intro s h0 _ acc _
      obtain rfl : s = 0 := by omega
      refine Ev.step (fun _ => rfl) ?_
      simp only [impl_members.l0, Int.natCast_zero, if_true]
      rw [elems_zero]
      simpa [ints] using Ev.now acc
    | succ d ih =>
      intro s h0 hs acc ha
      by_cases hz : s = 0
      · exact ih s (by omega) hs acc ha
      · have hs2 := lt62 hs hn
        obtain ⟨m, hm, hk⟩ := Lib.ctzFrom_spec 64 s (by omega) (by omega)
        have he := elems_least n s _ m hm hs
        have hl : (elems n s).length = (elems n (s &&& (s - 1))).length + 1 := by rw [he]; rfl
        refine Ev.step (fun _ => rfl) ?_
        have hc : Lib.ctz 64 s = Lib.ctzFrom 64 s := by unfold Lib.ctz; rw [if_neg hz]
        have e1 : bits_TrailingZeros.f (IntKind.u64.wrap (s : Int)) = some ((Lib.ctzFrom 64 s : Nat) : Int) := by
          rw [u64_small s (by omega)]
          unfold bits_TrailingZeros.f bits_TrailingZeros64.f
          rw [if_pos ⟨by omega, by omega⟩, Int.toNat_natCast, hc]
          rfl
        have e2 : Go.bits .and .i64 (s : Int) (wrap64 ((s : Int) - 1)) = ((s &&& (s - 1) : Nat) : Int) := by
          rw [show wrap64 ((s : Int) - 1) = ((s - 1 : Nat) : Int) from by unfold wrap64; omega]
          exact and_i64 _ _ (by omega) (by omega)
        simp only [impl_members.l0, if_neg (show ¬ (s : Int) = 0 by omega), e1, Option.bind_some, if_pos (show acc.length < 17592186044416 by omega), e2]
        have := ih (s &&& (s - 1)) (by have := and_pred_lt s hz; omega) (Nat.lt_of_le_of_lt Nat.and_le_left hs) (acc ++ [((Lib.ctzFrom 64 s : Nat) : Int)]) (by simp; omega)
        refine Ev.to this ?_
        rw [he]
        simp [ints]
  have h := key s s (Nat.le_refl _) hs [] (by have := elems_length_le n s; simp; omega)
  exact h
theorem orHas_eq (s : Nat) (j : Nat) (hj : j ≤ 64) : spec_orHas.f (s : Int) (j : Int) = some (s.testBit j) := by
  unfold spec_orHas.f
  rw [if_pos (by omega), has_mod _ _ (by omega) hj, bit_cast]
end Go.Proofs.YtjdkcafpgebjfaaDoor.M
namespace Go.Proofs.YtjdkcafpgebjfaaDoor.P
open Go.RowKit Go.Proofs.YtjdkcafpgebjfaaDoorW.PrintWords Go.Proofs.YtjdkcafpgebjfaaDoorW.PrintLast Go.Proofs.YtjdkcafpgebjfaaDoorW.PrintMore
open Bool renaming true → T, false → F
open List renaming setIfInBounds_toArray → L_, set_cons_zero → M_, set_cons_succ → N_, map_toArray → P_, map_cons → Q_, map_nil → R_, length_drop → S_, length_take → U_
open Aside0 renaming mk → A_
attribute [local go_sem] max2_int min2_int max_two min_two max_three min_three max_four min_four
set_option linter.unusedVariables false
set_option linter.unusedSimpArgs false
attribute [local go_sem] fldOrder_0 fldOrder_1
def spec_orRelation.f (k : Nat) (a0_0 : Int) (l0_1 : List Int) : Option (Bool) := (spec_l1In.f a0_0 0 10).bind fun t106 => (if t106 = true then (if (l0_1.length : Int) = a0_0 then (if 0 ≤ a0_0 then ((spec_l1All.f k l0_1 0 (wrap64 ((shl .i64 1 a0_0) - 1))).bind fun t107 => (some t107)) else (none)) else (some false)) else (some false))
end Go.Proofs.YtjdkcafpgebjfaaDoor.P
namespace Go.Proofs.YtjdkcafpgebjfaaDoor.P
open Go.RowKit Go.Proofs.YtjdkcafpgebjfaaDoorW.PrintWords Go.Proofs.YtjdkcafpgebjfaaDoorW.PrintLast Go.Proofs.YtjdkcafpgebjfaaDoorW.PrintMore
open Bool renaming true → T, false → F
open List renaming setIfInBounds_toArray → L_, set_cons_zero → M_, set_cons_succ → N_, map_toArray → P_, map_cons → Q_, map_nil → R_, length_drop → S_, length_take → U_
open Aside0 renaming mk → A_
attribute [local go_sem] max2_int min2_int max_two min_two max_three min_three max_four min_four
set_option linter.unusedVariables false
set_option linter.unusedSimpArgs false
attribute [local go_sem] fldOrder_0 fldOrder_1
mutual
def spec_orGood.l0 : Nat → List Int → Int → Int → Int → List Int → Option (Bool)
 | 0,_,_,_,_,_=>none
 | k + 1,x11,x12,x13,x113000,x113001=>if x13 < x12 then (if 0 ≤ x13 then (if x13 < (x11.length : Int) then ((spec_orHas.f (rd x11 x13) x13).bind fun t115=>(if t115 = true then (some false) else ((spec_orList.f k (rd x11 x13)).bind fun t116=>(spec_orGood.l1 k (rd x11 x13) x11 x12 x13 t116 (t116.length : Int) 0 x113000 x113001)))) else (none)) else (none)) else (some true)
def spec_orGood.l1 : Nat → Int → List Int → Int → Int → List Int → Int → Int → Int → List Int → Option (Bool)
 | 0,_,_,_,_,_,_,_,_,_=>none
 | k + 1,x4,x11,x12,x13,x22,x23,x24,x113000,x113001=>if x24 < x23 then (if 0 ≤ x24 then (if x24 < (x22.length : Int) then (if 0 ≤ (rd x22 x24) then (if (rd x22 x24) < (x113001.length : Int) then (if (Go.bits .andNot .i64 (rd x113001 (rd x22 x24)) x4) = 0 then (spec_orGood.l1 k x4 x11 x12 x13 x22 x23 (wrap64 (x24 + 1)) x113000 x113001) else (some false)) else (none)) else (none)) else (none)) else (none)) else (spec_orGood.l0 k x11 x12 (wrap64 (x13 + 1)) x113000 x113001)
end
end Go.Proofs.YtjdkcafpgebjfaaDoor.P
namespace Go.Proofs.YtjdkcafpgebjfaaDoor.M
open Go.RowKit Go.Proofs.YtjdkcafpgebjfaaDoorW.PrintMore Go.Proofs.YtjdkcafpgebjfaaDoorW.PrintLast Go.Proofs.YtjdkcafpgebjfaaDoorW.PrintWords Go.Proofs.YtjdkcafpgebjfaaDoor.P
def isRel (n : Int) (l : List Int) : Bool := decide (0 ≤ n ∧ n ≤ 10 ∧ (l.length : Int) = n ∧ ∀ x ∈ l, 0 ≤ x ∧ x ≤ ((2 ^ n.toNat : Nat) : Int) - 1)
def row (l : List Int) (i : Nat) : Nat := (l.getD i 0).toNat
def B (l : List Int) (i j : Nat) : Bool := (row l i).testBit j
structure Rel (n : Nat) (l : List Int) : Prop where
  le : n ≤ 10
  len : l.length = n
  mem : ∀ x ∈ l, 0 ≤ x ∧ x ≤ ((2 ^ n : Nat) : Int) - 1
theorem isRel_iff {n : Int} {l : List Int} : isRel n l = true ↔ ∃ m : Nat, n = m ∧ Rel m l := by
  unfold isRel
  rw [decide_eq_true_iff]
  constructor
  · rintro ⟨h0, h1, h2, h3⟩
    obtain ⟨m, rfl⟩ := Int.eq_ofNat_of_zero_le h0
    exact ⟨m, rfl, by omega, by omega, by simpa using h3⟩
  · rintro ⟨m, rfl, h⟩
    refine ⟨by omega, by have := h.le; omega, by have := h.len; omega, by simpa using h.mem⟩
section
variable {n : Nat} {l : List Int}
theorem Rel.getD (h : Rel n l) (i : Nat) : l.getD i 0 = ((row l i : Nat) : Int) := by
  unfold row
  by_cases hi : i < l.length
  · have := (h.mem l[i] (List.getElem_mem hi)).1
    rw [show l.getD i 0 = l[i] by simp [hi]]
    omega
  · rw [show l.getD i 0 = 0 by simp [Nat.not_lt.1 hi]]
    rfl
theorem Rel.row_lt (h : Rel n l) (i : Nat) : row l i < 2 ^ n := by
  have hp : 0 < 2 ^ n := Nat.two_pow_pos n
  by_cases hi : i < l.length
  · have h1 := h.mem l[i] (List.getElem_mem hi)
    have h2 := h.getD i
    rw [show l.getD i 0 = l[i] by simp [hi]] at h2
    omega
  · unfold row
    rw [show l.getD i 0 = 0 by simp [Nat.not_lt.1 hi]]
    simpa using hp
theorem Rel.row_62 (h : Rel n l) (i : Nat) : row l i < 9223372036854775808 := lt62 (h.row_lt i) (by have := h.le; omega)
theorem Rel.B_lt (h : Rel n l) {i j : Nat} (hb : B l i j = true) : j < n := by
  apply Nat.lt_of_not_le
  intro hle
  unfold B at hb
  rw [Nat.testBit_lt_two_pow (Nat.lt_of_lt_of_le (h.row_lt i) (Nat.pow_le_pow_right (by decide) hle))] at hb
  cases hb
theorem Rel.B_lt' (h : Rel n l) {i j : Nat} (hb : B l i j = true) : i < n := by
  apply Nat.lt_of_not_le
  intro hle
  unfold B row at hb
  rw [show l.getD i 0 = 0 by simp [h.len, hle]] at hb
  simp at hb
theorem Rel.rd (h : Rel n l) (i : Nat) : rd l (i : Int) = ((row l i : Nat) : Int) := by rw [rd_nat, h.getD]
theorem Rel.bit (h : Rel n l) (i j : Nat) : M.bit (Go.Proofs.YtjdkcafpgebjfaaDoorW.PrintWords.rd l (i : Int)) j = B l i j := by rw [h.rd, bit_cast]; rfl
end
def relL (n : Nat) (p : Nat → Nat → Bool) : List Int := (List.range n).map fun i => ((setOf n (p i) : Nat) : Int)
theorem relL_length (n : Nat) (p : Nat → Nat → Bool) : (relL n p).length = n := by simp [relL]
theorem relL_row (n : Nat) (p : Nat → Nat → Bool) (i : Nat) (h : i < n) : row (relL n p) i = setOf n (p i) := by
  simp [row, relL, h]
theorem relL_B (n : Nat) (p : Nat → Nat → Bool) (i j : Nat) : B (relL n p) i j = (decide (i < n) && (decide (j < n) && p i j)) := by
  unfold B
  by_cases h : i < n
  · rw [relL_row n p i h, testBit_setOf]; simp [h]
  · have : row (relL n p) i = 0 := by simp [row, relL, h]
    rw [this]; simp [h]
theorem relL_rel (n : Nat) (hn : n ≤ 10) (p : Nat → Nat → Bool) : Rel n (relL n p) where
  le := hn
  len := relL_length n p
  mem := by
    intro x hx
    simp only [relL, List.mem_map, List.mem_range] at hx
    obtain ⟨i, _, rfl⟩ := hx
    have := setOf_lt n (p i)
    omega
theorem relL_congr {n : Nat} {p q : Nat → Nat → Bool} (h : ∀ i j, i < n → j < n → p i j = q i j) : relL n p = relL n q := by
  unfold relL
  apply List.map_congr_left
  intro i hi
  rw [List.mem_range] at hi
  rw [setOf_congr (fun j hj => h i j hi hj)]
theorem within_eq (a b c : Int) : impl_within.f a b c = some (decide (b ≤ a ∧ a ≤ c)) := by
  unfold impl_within.f
  by_cases h : a ≥ b
  · rw [if_pos h]; simp [h]
  · rw [if_neg h]; simp; omega
theorem l1In_eq (a b c : Int) : spec_l1In.f a b c = some (decide (b ≤ a ∧ a ≤ c)) := by
  unfold spec_l1In.f
  by_cases h : a ≥ b
  · rw [if_pos h]; simp [h]
  · rw [if_neg h]; simp; omega
def allIn (l : List Int) (a b : Int) : Bool := decide (∀ x ∈ l, a ≤ x ∧ x ≤ b)
theorem allIn_eq (l : List Int) (a b : Int) : allIn l a b = allB l.length fun i => decide (a ≤ l.getD i 0 ∧ l.getD i 0 ≤ b) := by
  rw [Bool.eq_iff_iff, allB_iff]
  simp only [allIn, decide_eq_true_iff]
  constructor
  · intro h i hi
    have := h l[i] (List.getElem_mem hi)
    simpa [hi] using this
  · intro h x hx
    obtain ⟨i, hi, rfl⟩ := List.getElem_of_mem hx
    have := h i hi
    simpa [hi] using this
theorem allWithin_ev (l : List Int) (a b : Int) (hl : l.length ≤ 140737488355328) : Ev (fun k => impl_allWithin.f k l a b) (allIn l a b) := by
  rw [allIn_eq]
  unfold impl_allWithin.f
  refine Ev.all (fun i k => impl_allWithin.l0 k a b l (l.length : Int) (i : Int)) l.length _ ?_ ?_ ?_
  · intro i r hi hp h
    refine Ev.step (fun _ => rfl) ?_
    rw [decide_eq_true_iff] at hp
    simp only [impl_allWithin.l0, if_pos (show (i : Int) < (l.length : Int) by omega), if_pos (show (0 : Int) ≤ (i : Int) by omega), within_eq, rd_nat, Option.bind_some, decide_eq_true hp, if_true, next64 i l.length hi hl]
    exact h
  · intro i hi hp
    refine Ev.step (fun _ => rfl) ?_
    rw [decide_eq_false_iff_not] at hp
    simp only [impl_allWithin.l0, if_pos (show (i : Int) < (l.length : Int) by omega), if_pos (show (0 : Int) ≤ (i : Int) by omega), within_eq, rd_nat, Option.bind_some, decide_eq_false hp, Bool.false_eq_true, if_false]
    exact Ev.now _
  · refine Ev.step (fun _ => rfl) ?_
    simp only [impl_allWithin.l0, if_neg (show ¬ (l.length : Int) < (l.length : Int) by omega)]
    exact Ev.now _
theorem l1All_ev (l : List Int) (a b : Int) (hl : l.length ≤ 140737488355328) : Ev (fun k => spec_l1All.f k l a b) (allIn l a b) := by
  rw [allIn_eq]
  unfold spec_l1All.f
  refine Ev.all (fun i k => spec_l1All.l0 k a b l (l.length : Int) (i : Int)) l.length _ ?_ ?_ ?_
  · intro i r hi hp h
    refine Ev.step (fun _ => rfl) ?_
    rw [decide_eq_true_iff] at hp
    simp only [spec_l1All.l0, if_pos (show (i : Int) < (l.length : Int) by omega), if_pos (show (0 : Int) ≤ (i : Int) by omega), l1In_eq, rd_nat, Option.bind_some, decide_eq_true hp, if_true, next64 i l.length hi hl]
    exact h
  · intro i hi hp
    refine Ev.step (fun _ => rfl) ?_
    rw [decide_eq_false_iff_not] at hp
    simp only [spec_l1All.l0, if_pos (show (i : Int) < (l.length : Int) by omega), if_pos (show (0 : Int) ≤ (i : Int) by omega), l1In_eq, rd_nat, Option.bind_some, decide_eq_false hp, Bool.false_eq_true, if_false]
    exact Ev.now _
  · refine Ev.step (fun _ => rfl) ?_
    simp only [spec_l1All.l0, if_neg (show ¬ (l.length : Int) < (l.length : Int) by omega)]
    exact Ev.now _
theorem pow_of (n : Int) (h0 : 0 ≤ n) (h1 : n ≤ 10) : wrap64 (shl .i64 1 n - 1) = ((2 ^ n.toNat : Nat) : Int) - 1 := by
  obtain ⟨m, rfl⟩ := Int.eq_ofNat_of_zero_le h0
  rw [shl1 m (by omega), Int.toNat_natCast]
  have h2 : (2 : Nat) ^ m ≤ 2 ^ 10 := Nat.pow_le_pow_right (by decide) (by omega)
  have h3 : 0 < (2 : Nat) ^ m := Nat.two_pow_pos m
  exact wrap64_id _ (by omega) (by omega)
theorem isRel_parts (n : Int) (l : List Int) : isRel n l = (decide (0 ≤ n ∧ n ≤ 10) && (decide ((l.length : Int) = n) && allIn l 0 (((2 ^ n.toNat : Nat) : Int) - 1))) := by
  rw [Bool.eq_iff_iff]
  simp only [isRel, allIn, Bool.and_eq_true, decide_eq_true_iff]
  exact ⟨fun ⟨a, b, c, d⟩ => ⟨⟨a, b⟩, c, d⟩, fun ⟨⟨a, b⟩, c, d⟩ => ⟨a, b, c, d⟩⟩
theorem IsRelation_ev (n : Int) (l : List Int) (hl : l.length ≤ 140737488355328) : Ev (fun k => impl_IsRelation.f k n l) (isRel n l) := by
  unfold impl_IsRelation.f
  simp only [within_eq, Option.bind_some]
  rw [isRel_parts]
  by_cases h1 : 0 ≤ n ∧ n ≤ 10
  · by_cases h2 : (l.length : Int) = n
    · simp only [decide_eq_true h1, if_true, if_pos h2, if_pos h1.1, pow_of n h1.1 h1.2, decide_eq_true h2, Bool.true_and]
      exact Ev.bind (allWithin_ev l _ _ hl) (Ev.now _)
    · simp only [decide_eq_true h1, if_true, if_neg h2, decide_eq_false h2, Bool.false_and, Bool.and_false]
      exact Ev.now _
  · simp only [decide_eq_false h1, Bool.false_eq_true, if_false, Bool.false_and]
    exact Ev.now _
def closedAt (n : Nat) (l : List Int) (i : Nat) : Bool := allB (elems n (row l i)).length fun q => diff (row l ((elems n (row l i)).getD q 0)) (row l i) == 0
def isOrd (n : Int) (l : List Int) : Bool := isRel n l && allB l.length fun i => !B l i i && closedAt l.length l i
theorem better_eq {n : Nat} {l : List Int} (h : Rel n l) (m : Int) (i j : Nat) (hi : i < n) (hj : j ≤ 62) : impl_Order_better.f m l (i : Int) (j : Int) = some (B l i j) := by
  unfold impl_Order_better.f
  rw [if_pos (by omega), if_pos (by rw [h.len]; omega), if_pos (by omega), has_and _ _ (by rw [h.rd]; omega) (by rw [h.rd]; have := h.row_62 i; omega) (by omega), h.bit]
theorem diff_zero (a b : Nat) : (diff a b = 0) ↔ ∀ j, a.testBit j = true → b.testBit j = true := by
  constructor
  · intro h j hj
    have := testBit_diff a b j
    rw [h, hj] at this
    simpa using this.symm
  · intro h
    apply Nat.eq_of_testBit_eq
    intro j
    rw [testBit_diff]
    cases hj : a.testBit j with
    | false => simp
    | true => simp [h j hj]
theorem ints_getD (l : List Nat) (q : Nat) (h : q < l.length) : (ints l).getD q 0 = ((l.getD q 0 : Nat) : Int) := by simp [ints, h]
theorem closed_iff {n : Nat} {l : List Int} (h : Rel n l) (i : Nat) : closedAt n l i = true ↔ ∀ j k, B l i j = true → B l j k = true → B l i k = true := by
  unfold closedAt
  rw [allB_iff]
  constructor
  · intro H j k hij hjk
    have hm : j ∈ elems n (row l i) := mem_elems.2 ⟨h.B_lt hij, hij⟩
    obtain ⟨q, hq, e⟩ := List.getElem_of_mem hm
    have := H q hq
    rw [show (elems n (row l i)).getD q 0 = j by simp [hq, e], beq_iff_eq, diff_zero] at this
    exact this k hjk
  · intro H q hq
    rw [beq_iff_eq, diff_zero]
    intro k hk
    have hm : (elems n (row l i)).getD q 0 ∈ elems n (row l i) := by simp [hq]
    exact H _ k (mem_elems.1 hm).2 hk
structure Ord (n : Nat) (l : List Int) : Prop extends Rel n l where
  irr : ∀ i, B l i i = false
  trans : ∀ i j k, B l i j = true → B l j k = true → B l i k = true
theorem isOrd_iff {n : Int} {l : List Int} : isOrd n l = true ↔ ∃ m : Nat, n = m ∧ Ord m l := by
  unfold isOrd
  rw [Bool.and_eq_true, isRel_iff, allB_iff]
  constructor
  · rintro ⟨⟨m, rfl, h⟩, H⟩
    rw [h.len] at H
    refine ⟨m, rfl, h, fun i => ?_, fun i j k hij hjk => ?_⟩
    · cases hc : B l i i with
      | false => rfl
      | true =>
        have := H i (h.B_lt hc)
        rw [hc] at this
        simp at this
    · have := H i (h.B_lt' hij)
      rw [Bool.and_eq_true] at this
      exact (closed_iff h i).1 this.2 j k hij hjk
  · rintro ⟨m, rfl, h⟩
    refine ⟨⟨m, rfl, h.toRel⟩, fun i _ => ?_⟩
    rw [h.irr i, h.len, (closed_iff h.toRel i).2 (h.trans i)]
    rfl
theorem IsOrder_ev (n : Int) (l : List Int) (hl : l.length ≤ 140737488355328) : Ev (fun k => impl_IsOrder.f k n l) (isOrd n l) := by
  unfold impl_IsOrder.f isOrd
  refine Ev.bind (IsRelation_ev n l hl) ?_
  cases hr : isRel n l with
  | false => simp only [Bool.false_eq_true, if_false, Bool.false_and]; exact Ev.now _
  | true =>
    obtain ⟨m, rfl, h⟩ := isRel_iff.1 hr
    have hlen := h.len
    have h10 := h.le
    simp only [if_true, Bool.true_and]
    refine Ev.all (fun i k => impl_IsOrder.l0 k l (l.length : Int) (i : Int) (m : Int) l) l.length _ ?_ ?_ ?_
    · intro i r hi hp hrest
      rw [Bool.and_eq_true] at hp
      have hB : B l i i = false := by simpa using hp.1
      refine Ev.step (fun _ => rfl) ?_
      simp only [impl_IsOrder.l0, if_pos (show (i : Int) < (l.length : Int) by omega), if_pos (show (0 : Int) ≤ (i : Int) by omega), better_eq h _ i i (by omega) (by omega), Option.bind_some, hB, Bool.false_eq_true, if_false, h.rd]
      refine Ev.bind (members_ev m (by omega) (row l i) (h.row_lt i)) ?_
      have hE := elems_length_le m (row l i)
      rw [ints_length]
      refine Ev.up (fun q k => impl_IsOrder.l1 k ((row l i : Nat) : Int) l (l.length : Int) (i : Int) (ints (elems m (row l i))) ((elems m (row l i)).length : Int) (q : Int) (m : Int) l) (elems m (row l i)).length ?_ ?_
      · intro q hq hn
        refine Ev.step (fun _ => rfl) ?_
        have hmem : (elems m (row l i)).getD q 0 ∈ elems m (row l i) := by simp [hq]
        have hlt := (mem_elems.1 hmem).1
        have e0 : rd (ints (elems m (row l i))) (q : Int) = (((elems m (row l i)).getD q 0 : Nat) : Int) := by rw [rd_nat, ints_getD _ _ hq]
        have hd : diff (row l ((elems m (row l i)).getD q 0)) (row l i) = 0 := by
          have hc := hp.2
          unfold closedAt at hc
          rw [allB_iff, hlen] at hc
          exact beq_iff_eq.1 (hc q hq)
        simp only [impl_IsOrder.l1, if_pos (show (q : Int) < ((elems m (row l i)).length : Int) by omega), if_pos (show (0 : Int) ≤ (q : Int) by omega), ints_length, e0, if_pos (show (0 : Int) ≤ (((elems m (row l i)).getD q 0 : Nat) : Int) by omega), if_pos (show (((elems m (row l i)).getD q 0 : Nat) : Int) < (l.length : Int) by omega), h.rd, andNot_i64 _ _ (h.row_62 _) (h.row_62 _), hd, Int.natCast_zero, if_true, next64 q _ hq (by omega)]
        exact hn
      · refine Ev.step (fun _ => rfl) ?_
        simp only [impl_IsOrder.l1, if_neg (show ¬ ((elems m (row l i)).length : Int) < ((elems m (row l i)).length : Int) by omega), next64 i l.length hi (by omega)]
        exact hrest
    · intro i hi hp
      refine Ev.step (fun _ => rfl) ?_
      simp only [impl_IsOrder.l0, if_pos (show (i : Int) < (l.length : Int) by omega), if_pos (show (0 : Int) ≤ (i : Int) by omega), better_eq h _ i i (by omega) (by omega), Option.bind_some]
      cases hB : B l i i with
      | true => simp only [if_true]; exact Ev.now _
      | false =>
        rw [hB] at hp
        have hc : closedAt l.length l i = false := by simpa using hp
        unfold closedAt at hc
        rw [hlen] at hc
        obtain ⟨j, hj, hbad, hless⟩ := least_false (allB_false.1 hc)
        simp only [Bool.false_eq_true, if_false, h.rd]
        refine Ev.bind (members_ev m (by omega) (row l i) (h.row_lt i)) ?_
        have hE := elems_length_le m (row l i)
        rw [ints_length]
        refine Ev.up (fun q k => impl_IsOrder.l1 k ((row l i : Nat) : Int) l (l.length : Int) (i : Int) (ints (elems m (row l i))) ((elems m (row l i)).length : Int) (q : Int) (m : Int) l) j ?_ ?_
        · intro q hq hn
          refine Ev.step (fun _ => rfl) ?_
          have hmem : (elems m (row l i)).getD q 0 ∈ elems m (row l i) := by simp [show q < (elems m (row l i)).length by omega]
          have hlt := (mem_elems.1 hmem).1
          have e0 : rd (ints (elems m (row l i))) (q : Int) = (((elems m (row l i)).getD q 0 : Nat) : Int) := by rw [rd_nat, ints_getD _ _ (by omega)]
          have hd : diff (row l ((elems m (row l i)).getD q 0)) (row l i) = 0 := beq_iff_eq.1 (hless q hq)
          simp only [impl_IsOrder.l1, if_pos (show (q : Int) < ((elems m (row l i)).length : Int) by omega), if_pos (show (0 : Int) ≤ (q : Int) by omega), ints_length, e0, if_pos (show (0 : Int) ≤ (((elems m (row l i)).getD q 0 : Nat) : Int) by omega), if_pos (show (((elems m (row l i)).getD q 0 : Nat) : Int) < (l.length : Int) by omega), h.rd, andNot_i64 _ _ (h.row_62 _) (h.row_62 _), hd, Int.natCast_zero, if_true, next64 q _ (show q < (elems m (row l i)).length by omega) (by omega)]
          exact hn
        · refine Ev.step (fun _ => rfl) ?_
          have hmem : (elems m (row l i)).getD j 0 ∈ elems m (row l i) := by simp [hj]
          have hlt := (mem_elems.1 hmem).1
          have e0 : rd (ints (elems m (row l i))) (j : Int) = (((elems m (row l i)).getD j 0 : Nat) : Int) := by rw [rd_nat, ints_getD _ _ (by omega)]
          have hd : ¬ ((diff (row l ((elems m (row l i)).getD j 0)) (row l i) : Nat) : Int) = 0 := by
            have := beq_eq_false_iff_ne.1 hbad
            omega
          simp only [impl_IsOrder.l1, if_pos (show (j : Int) < ((elems m (row l i)).length : Int) by omega), if_pos (show (0 : Int) ≤ (j : Int) by omega), ints_length, e0, if_pos (show (0 : Int) ≤ (((elems m (row l i)).getD j 0 : Nat) : Int) by omega), if_pos (show (((elems m (row l i)).getD j 0 : Nat) : Int) < (l.length : Int) by omega), h.rd, andNot_i64 _ _ (h.row_62 _) (h.row_62 _), if_neg hd]
          exact Ev.now _
    · refine Ev.step (fun _ => rfl) ?_
      simp only [impl_IsOrder.l0, if_neg (show ¬ (l.length : Int) < (l.length : Int) by omega)]
      exact Ev.now _
end Go.Proofs.YtjdkcafpgebjfaaDoor.M
namespace Go.Proofs.YtjdkcafpgebjfaaDoor.M
open Go.RowKit Go.Proofs.YtjdkcafpgebjfaaDoorW.PrintMore Go.Proofs.YtjdkcafpgebjfaaDoorW.PrintLast Go.Proofs.YtjdkcafpgebjfaaDoorW.PrintWords Go.Proofs.YtjdkcafpgebjfaaDoor.P
theorem setOf_bit_or (q : Nat → Bool) (j : Nat) : setOf (j + 1) q = if q j then setOf j q ||| 2 ^ j else setOf j q := by
  show setOf j q ||| (if q j then 2 ^ j else 0) = _
  cases q j <;> simp
def part (n : Nat) (p : Nat → Nat → Bool) (i j : Nat) : List Int := (List.range n).map fun a => ((setOf (if a < i then n else if a = i then j else 0) (p a) : Nat) : Int)
theorem part_length (n : Nat) (p : Nat → Nat → Bool) (i j : Nat) : (part n p i j).length = n := by simp [part]
theorem part_getD (n : Nat) (p : Nat → Nat → Bool) (i j a : Nat) (h : a < n) : (part n p i j).getD a 0 = ((setOf (if a < i then n else if a = i then j else 0) (p a) : Nat) : Int) := by simp [part, h]
theorem part_next (n : Nat) (p : Nat → Nat → Bool) (i : Nat) : part n p i n = part n p (i + 1) 0 := by
  unfold part
  apply List.map_congr_left
  intro a _
  by_cases h1 : a < i
  · rw [if_pos h1, if_pos (by omega)]
  · rw [if_neg h1]
    by_cases h2 : a = i
    · rw [if_pos h2, if_pos (by omega)]
    · rw [if_neg h2, if_neg (by omega)]
      by_cases h3 : a = i + 1
      · rw [if_pos h3]
      · rw [if_neg h3]
theorem part_no (n : Nat) (p : Nat → Nat → Bool) (i j : Nat) (hi : i < n) (h : p i j = false) : part n p i j = part n p i (j + 1) := by
  unfold part
  apply List.map_congr_left
  intro a _
  by_cases h2 : a = i
  · subst h2
    rw [if_neg (Nat.lt_irrefl _), if_pos rfl, if_neg (Nat.lt_irrefl _), if_pos rfl, setOf_bit_or, h]
    rfl
  · rw [if_neg h2, if_neg h2]
theorem part_yes (n : Nat) (p : Nat → Nat → Bool) (i j : Nat) (hi : i < n) (h : p i j = true) : (part n p i j).set i ((setOf j (p i) ||| 2 ^ j : Nat) : Int) = part n p i (j + 1) := by
  apply list_ext_getD (by simp [part_length])
  intro a ha
  have ha : a < n := by simpa [part_length] using ha
  rw [part_getD n p i (j + 1) a ha]
  by_cases h2 : a = i
  · subst h2
    rw [if_neg (Nat.lt_irrefl _), if_pos rfl, setOf_bit_or, h]
    rw [List.getD_eq_getElem?_getD, List.getElem?_set_self (by rw [part_length]; exact hi)]
    rfl
  · have e : ((part n p i j).set i ((setOf j (p i) ||| 2 ^ j : Nat) : Int)).getD a 0 = (part n p i j).getD a 0 := by
      simp [List.getD, Ne.symm h2]
    rw [e, part_getD n p i j a ha, if_neg h2, if_neg h2]
theorem part_zero (n : Nat) (p : Nat → Nat → Bool) : part n p 0 0 = List.replicate n 0 := by
  apply list_ext_getD (by simp [part_length])
  intro a ha
  have ha : a < n := by simpa [part_length] using ha
  rw [part_getD n p 0 0 a ha, if_neg (Nat.not_lt_zero _)]
  have : (if a = 0 then 0 else 0) = 0 := by split <;> rfl
  rw [this]
  simp [setOf, ha]
theorem part_all (n : Nat) (p : Nat → Nat → Bool) : part n p n 0 = relL n p := by
  unfold part relL
  apply List.map_congr_left
  intro a ha
  rw [List.mem_range] at ha
  rw [if_pos ha]
theorem relation_ev (n : Nat) (hn : n ≤ 62) (g : Nat → Int → Int → Option Bool) (p : Nat → Nat → Bool) (hg : ∀ i j, i < n → j < n → Ev (fun k => g k (i : Int) (j : Int)) (p i j)) :
    Ev (fun k => impl_relation.f k (n : Int) (g k)) ((n : Int), relL n p) := by
  -- the tests all come to their answers from one number of rounds on
  obtain ⟨K, hK⟩ : ∃ K, ∀ k, K ≤ k → ∀ i j, i < n → j < n → g k (i : Int) (j : Int) = some (p i j) := by
    have one : ∀ m, ∃ K, ∀ k, K ≤ k → ∀ i j, i < n → j < n → i * n + j < m → g k (i : Int) (j : Int) = some (p i j) := by
      intro m
      induction m with
      | zero => exact ⟨0, fun k _ i j _ _ h => absurd h (Nat.not_lt_zero _)⟩
      | succ m ih =>
        obtain ⟨K, hK⟩ := ih
        by_cases hx : ∃ i j, i < n ∧ j < n ∧ i * n + j = m
        · obtain ⟨i, j, hi, hj, hm⟩ := hx
          obtain ⟨K', hK'⟩ := hg i j hi hj
          refine ⟨max K K', fun k hk i' j' hi' hj' h => ?_⟩
          by_cases he : i' * n + j' = m
          · have e1 : i' = i := by
              have a1 : (i' * n + j') / n = i' := by rw [Nat.mul_comm, Nat.mul_add_div (by omega), Nat.div_eq_of_lt hj', Nat.add_zero]
              have a2 : (i * n + j) / n = i := by rw [Nat.mul_comm, Nat.mul_add_div (by omega), Nat.div_eq_of_lt hj, Nat.add_zero]
              rw [← a1, ← a2, he, hm]
            subst e1
            have e2 : j' = j := by omega
            subst e2
            exact hK' k (by omega)
          · exact hK k (by omega) i' j' hi' hj' (by omega)
        · exact ⟨K, fun k hk i j hi hj h => hK k hk i j hi hj (by
            rcases Nat.lt_or_ge (i * n + j) m with h1 | h1
            · exact h1
            · exact absurd ⟨i, j, hi, hj, by omega⟩ hx)⟩
    obtain ⟨K, h⟩ := one (n * n + n)
    refine ⟨K, fun k hk i j hi hj => h k hk i j hi hj ?_⟩
    have : i * n ≤ n * n := Nat.mul_le_mul_right n (by omega)
    omega
  -- with the tests as' at one number
  have main : ∀ is : Int → Int → Option Bool, (∀ i j, i < n → j < n → is (i : Int) (j : Int) = some (p i j)) → Ev (fun k => impl_relation.f k (n : Int) is) ((n : Int), relL n p) := by
    intro is his
    unfold impl_relation.f
    simp only [if_pos (show (0 : Int) ≤ (n : Int) by omega), Int.toNat_natCast, if_pos (show n ≤ 35184372088832 by omega)]
    rw [← part_zero n p]
    refine Ev.up (fun i k => impl_relation.l0 is k (n : Int) (n : Int) (i : Int) (n : Int) (part n p i 0)) n ?_ ?_
    · intro i hi h
      refine Ev.step (fun _ => rfl) ?_
      simp only [impl_relation.l0, if_pos (show (i : Int) < (n : Int) by omega)]
      refine Ev.up (fun j k => impl_relation.l1 is k (n : Int) (i : Int) (n : Int) (i : Int) (n : Int) (j : Int) (n : Int) (part n p i j)) n ?_ ?_
      · intro j hj h
        refine Ev.step (fun _ => rfl) ?_
        simp only [impl_relation.l1, if_pos (show (j : Int) < (n : Int) by omega), his i j hi hj, Option.bind_some, next64 j n hj (by omega)]
        cases hp : p i j with
        | false =>
          simp only [Bool.false_eq_true, if_false]
          rw [part_no n p i j hi hp]
          exact h
        | true =>
          have hs : setOf j (p i) < 9223372036854775808 := setOf_62 _ _ (by omega)
          have h2 : (2 : Nat) ^ j < 9223372036854775808 := Nat.lt_of_le_of_lt (Nat.pow_le_pow_right (by decide) (by omega : j ≤ 62)) (by decide)
          have e1 : rd (part n p i j) (i : Int) = ((setOf j (p i) : Nat) : Int) := by
            rw [rd_nat, part_getD n p i j i hi, if_neg (Nat.lt_irrefl _), if_pos rfl]
          simp only [if_true, if_pos (show (0 : Int) ≤ (i : Int) by omega), part_length, if_pos (show (i : Int) < (n : Int) by omega), if_pos (show (0 : Int) ≤ (j : Int) by omega), e1, shl1 j (by omega), or_i64 _ _ hs h2, Int.toNat_natCast]
          rw [part_yes n p i j hi hp]
          exact h
      · refine Ev.step (fun _ => rfl) ?_
        simp only [impl_relation.l1, if_neg (show ¬ (n : Int) < (n : Int) by omega), next64 i n hi (by omega)]
        rw [part_next]
        exact h
    · refine Ev.step (fun _ => rfl) ?_
      simp only [impl_relation.l0, if_neg (show ¬ (n : Int) < (n : Int) by omega)]
      rw [part_all]
      exact Ev.now _
  -- the least test that answers so
  have h0 := main (fun x y => if 0 ≤ x ∧ x < n ∧ 0 ≤ y ∧ y < n then some (p x.toNat y.toNat) else none) (fun i j hi hj => by
    show (if _ then _ else _) = _
    rw [if_pos ⟨by omega, by omega, by omega, by omega⟩, Int.toNat_natCast, Int.toNat_natCast])
  obtain ⟨K', hK'⟩ := h0
  refine ⟨max K K' + 1, fun k hk => ?_⟩
  obtain ⟨d, rfl⟩ : ∃ d, k = d + 1 := ⟨k - 1, by omega⟩
  refine impl_relation.mono2 (is := fun x y => if 0 ≤ x ∧ x < n ∧ 0 ≤ y ∧ y < n then some (p x.toNat y.toNat) else none) (is' := g (d + 1)) (fun x y r hr => ?_) (n : Int) d _ (hK' d (by omega))
  by_cases hxy : 0 ≤ x ∧ x < n ∧ 0 ≤ y ∧ y < n
  · rw [if_pos hxy] at hr
    obtain ⟨i, rfl⟩ := Int.eq_ofNat_of_zero_le hxy.1
    obtain ⟨j, rfl⟩ := Int.eq_ofNat_of_zero_le hxy.2.2.1
    rw [Int.toNat_natCast, Int.toNat_natCast] at hr
    rw [hK (d + 1) (by omega) i j (by omega) (by omega)]
    exact hr
  · rw [if_neg hxy] at hr
    cases hr
end Go.Proofs.YtjdkcafpgebjfaaDoor.M
namespace Go.Proofs.YtjdkcafpgebjfaaDoor.P
open Go.RowKit Go.Proofs.YtjdkcafpgebjfaaDoorW.PrintWords Go.Proofs.YtjdkcafpgebjfaaDoorW.PrintLast Go.Proofs.YtjdkcafpgebjfaaDoorW.PrintMore
open Bool renaming true → T, false → F
open List renaming setIfInBounds_toArray → L_, set_cons_zero → M_, set_cons_succ → N_, map_toArray → P_, map_cons → Q_, map_nil → R_, length_drop → S_, length_take → U_
open Aside0 renaming mk → A_
attribute [local go_sem] max2_int min2_int max_two min_two max_three min_three max_four min_four
set_option linter.unusedVariables false
set_option linter.unusedSimpArgs false
attribute [local go_sem] fldOrder_0 fldOrder_1
mutual
def spec_l1Cur_relation.l0 : Nat → List Int → Int → Int → Int → List Int → Option (Int × List Int × Int × Int)
 | 0,_,_,_,_,_=>none
 | k + 1,x1000,x1001,x1002,x493000,x493001=>if (x493001.length : Int) < x493000 then (spec_l1Cur_relation.l1 k 0 0 x1000 x1001 x1002 x493000 x493001) else (some (x493000,x493001,x1001,x1002))
def spec_l1Cur_relation.l1 : Nat → Int → Int → List Int → Int → Int → Int → List Int → Option (Int × List Int × Int × Int)
 | 0,_,_,_,_,_,_,_=>none
 | k + 1,x6,x7,x1000,x1001,x1002,x493000,x493001=>if x7 < x493000 then ((spec_l1Cur_one.f x1000 x1001 x1002 4).bind fun bt493=>(if bt493.1 = true then (if 0 ≤ x7 then (spec_l1Cur_relation.l1 k (Go.bits .or .i64 x6 (shl .i64 1 x7)) (wrap64 (x7 + 1)) x1000 bt493.2.1 bt493.2.2 x493000 x493001) else (none)) else (spec_l1Cur_relation.l1 k x6 (wrap64 (x7 + 1)) x1000 bt493.2.1 bt493.2.2 x493000 x493001))) else (if x493001.length < 17592186044416 then (spec_l1Cur_relation.l0 k x1000 x1001 x1002 x493000 (x493001 ++ [x6])) else (none))
end
def spec_l1Own.f (l0 : List Int) : Option (List Int) := (some (([] : List Int) : List Int)).bind fun y499 => (if y499.length + l0.length < 17592186044416 then (some (y499 ++ l0)) else (none))
mutual
def spec_CloseRelation.l0 : Nat → Int → Int → Int → List Int → Option (Int × List Int × Bool)
 | 0,_,_,_,_=>none
 | k + 1,x19,x20,x512000,x512001=>if x20 < x19 then (spec_CloseRelation.l1 k x20 x19 x20 (x512001.length : Int) 0 x512000 x512001) else (some (x512000,x512001,true))
def spec_CloseRelation.l1 : Nat → Int → Int → Int → Int → Int → Int → List Int → Option (Int × List Int × Bool)
 | 0,_,_,_,_,_,_,_=>none
 | k + 1,x5,x19,x20,x25,x26,x512000,x512001=>if x26 < x25 then (if 0 ≤ x26 then (if x26 < (x512001.length : Int) then ((spec_orHas.f (rd x512001 x26) x5).bind fun t513=>(if t513 = true then (if 0 ≤ x5 then (if x5 < (x512001.length : Int) then (spec_CloseRelation.l1 k x5 x19 x20 x25 (wrap64 (x26 + 1)) x512000 (x512001.set (x26 : Int).toNat (Go.bits .or .i64 (rd x512001 x26) (rd x512001 x5)))) else (none)) else (none)) else (spec_CloseRelation.l1 k x5 x19 x20 x25 (wrap64 (x26 + 1)) x512000 x512001))) else (none)) else (none)) else (spec_CloseRelation.l0 k x19 (wrap64 (x20 + 1)) x512000 x512001)
end
def spec_CloseRelation.f (k : Nat) (a0_0 : Int) (l0_1 : List Int) : Option (Int × List Int × Bool) := (spec_orRelation.f k a0_0 l0_1).bind fun t507 => (if t507 = true then ((spec_l1Own.f l0_1).bind fun t508 => (spec_CloseRelation.l0 k (t508.length : Int) 0 a0_0 t508)) else (some (0, ([] : List Int), false)))
mutual
def spec_l1Cur_order.l0 : Nat → Int → Int → List Int → List Int → Int → List Int → Int → Int → Int → List Int → Option (Int × List Int × Int × Int)
 | 0,_,_,_,_,_,_,_,_,_,_=>none
 | k + 1,x5,x7,x8,x9,x10,x1000,x1001,x1002,x525000,x525001=>if x10 < x5 then ((spec_l1Cur_pick.f x1000 x1001 x1002 8).bind fun bt528=>(if x8.length < 17592186044416 then ((some (x8 ++ [bt528.1] : List Int)).bind fun y531=>(if x7 = 1 then ((spec_l1Cur_pick.f x1000 bt528.2.1 bt528.2.2 4).bind fun bt534=>(if x9.length < 17592186044416 then (spec_l1Cur_order.l0 k x5 x7 y531 (x9 ++ [wrap64 (bt528.1 + bt534.1)]) (wrap64 (x10 + 1)) x1000 bt534.2.1 bt534.2.2 x525000 x525001) else (none))) else (if x9.length < 17592186044416 then (spec_l1Cur_order.l0 k x5 x7 y531 (x9 ++ [wrap64 (bt528.1 + 2)]) (wrap64 (x10 + 1)) x1000 bt528.2.1 bt528.2.2 x525000 x525001) else (none)))) else (none))) else (spec_l1Cur_order.l1 k x5 x7 x8 x9 0 x1000 x1001 x1002 x525000 x525001)
def spec_l1Cur_order.l1 : Nat → Int → Int → List Int → List Int → Int → List Int → Int → Int → Int → List Int → Option (Int × List Int × Int × Int)
 | 0,_,_,_,_,_,_,_,_,_,_=>none
 | k + 1,x5,x7,x8,x9,x12,x1000,x1001,x1002,x525000,x525001=>if x12 < x5 then (spec_l1Cur_order.l2 k x5 x7 x8 x9 x12 0 x1000 x1001 x1002 x525000 x525001) else (if x7 > 0 then (some (x525000,x525001,x1001,x1002)) else ((spec_CloseRelation.f k x525000 x525001).bind fun bt543=>(some (bt543.1,bt543.2.1,x1001,x1002))))
def spec_l1Cur_order.l2 : Nat → Int → Int → List Int → List Int → Int → Int → List Int → Int → Int → Int → List Int → Option (Int × List Int × Int × Int)
 | 0,_,_,_,_,_,_,_,_,_,_,_=>none
 | k + 1,x5,x7,x8,x9,x12,x13,x1000,x1001,x1002,x525000,x525001=>if x13 < x5 then (if x7 > 0 then (if 0 ≤ x12 then (if x12 < (x9.length : Int) then (if 0 ≤ x13 then (if x13 < (x8.length : Int) then (if (rd x9 x12) < (rd x8 x13) then (if x12 < (x525001.length : Int) then (spec_l1Cur_order.l2 k x5 x7 x8 x9 x12 (wrap64 (x13 + 1)) x1000 x1001 x1002 x525000 (x525001.set (x12 : Int).toNat (Go.bits .or .i64 (rd x525001 x12) (shl .i64 1 x13)))) else (none)) else (if x7 = 0 then (if x12 < x13 then ((spec_l1Cur_one.f x1000 x1001 x1002 3).bind fun bt553=>(if bt553.1 = true then (if x12 < (x525001.length : Int) then (spec_l1Cur_order.l2 k x5 x7 x8 x9 x12 (wrap64 (x13 + 1)) x1000 bt553.2.1 bt553.2.2 x525000 (x525001.set (x12 : Int).toNat (Go.bits .or .i64 (rd x525001 x12) (shl .i64 1 x13)))) else (none)) else (spec_l1Cur_order.l2 k x5 x7 x8 x9 x12 (wrap64 (x13 + 1)) x1000 bt553.2.1 bt553.2.2 x525000 x525001))) else (spec_l1Cur_order.l2 k x5 x7 x8 x9 x12 (wrap64 (x13 + 1)) x1000 x1001 x1002 x525000 x525001)) else (spec_l1Cur_order.l2 k x5 x7 x8 x9 x12 (wrap64 (x13 + 1)) x1000 x1001 x1002 x525000 x525001))) else (none)) else (none)) else (none)) else (none)) else (if x7 = 0 then (if x12 < x13 then ((spec_l1Cur_one.f x1000 x1001 x1002 3).bind fun bt558=>(if bt558.1 = true then (if 0 ≤ x12 then (if x12 < (x525001.length : Int) then (if 0 ≤ x13 then (spec_l1Cur_order.l2 k x5 x7 x8 x9 x12 (wrap64 (x13 + 1)) x1000 bt558.2.1 bt558.2.2 x525000 (x525001.set (x12 : Int).toNat (Go.bits .or .i64 (rd x525001 x12) (shl .i64 1 x13)))) else (none)) else (none)) else (none)) else (spec_l1Cur_order.l2 k x5 x7 x8 x9 x12 (wrap64 (x13 + 1)) x1000 bt558.2.1 bt558.2.2 x525000 x525001))) else (spec_l1Cur_order.l2 k x5 x7 x8 x9 x12 (wrap64 (x13 + 1)) x1000 x1001 x1002 x525000 x525001)) else (spec_l1Cur_order.l2 k x5 x7 x8 x9 x12 (wrap64 (x13 + 1)) x1000 x1001 x1002 x525000 x525001))) else (spec_l1Cur_order.l1 k x5 x7 x8 x9 (wrap64 (x12 + 1)) x1000 x1001 x1002 x525000 x525001)
end
end Go.Proofs.YtjdkcafpgebjfaaDoor.P
namespace Go.Proofs.YtjdkcafpgebjfaaDoor.P
open Go.RowKit Go.Proofs.YtjdkcafpgebjfaaDoorW.PrintWords Go.Proofs.YtjdkcafpgebjfaaDoorW.PrintLast Go.Proofs.YtjdkcafpgebjfaaDoorW.PrintMore
open Bool renaming true → T, false → F
open List renaming setIfInBounds_toArray → L_, set_cons_zero → M_, set_cons_succ → N_, map_toArray → P_, map_cons → Q_, map_nil → R_, length_drop → S_, length_take → U_
open Aside0 renaming mk → A_
attribute [local go_sem] max2_int min2_int max_two min_two max_three min_three max_four min_four
set_option linter.unusedVariables false
set_option linter.unusedSimpArgs false
attribute [local go_sem] fldOrder_0 fldOrder_1
end Go.Proofs.YtjdkcafpgebjfaaDoor.P
namespace Go.Proofs.YtjdkcafpgebjfaaDoor.M
open Go.RowKit Go.Proofs.YtjdkcafpgebjfaaDoorW.PrintMore Go.Proofs.YtjdkcafpgebjfaaDoorW.PrintLast Go.Proofs.YtjdkcafpgebjfaaDoorW.PrintWords Go.Proofs.YtjdkcafpgebjfaaDoor.P
def Tot {α : Type} (g : Nat → Option α) (Q : α → Prop) : Prop := ∃ r, Ev g r ∧ Q r
section
variable {α β : Type} {Q : α → Prop} {R : β → Prop}
theorem Tot.now {r : α} (h : Q r) : Tot (fun _ => some r) Q := ⟨r, Ev.now r, h⟩
theorem Tot.step {g f : Nat → Option α} (h : ∀ k, g (k + 1) = f k) (k : Tot f Q) : Tot g Q := by obtain ⟨r, k, hq⟩ := k; exact ⟨r, Ev.step h k, hq⟩
theorem Tot.obind {x : Option α} {f : Nat → α → Option β} (h : ∃ r, x = some r ∧ Q r) (k : ∀ a, Q a → Tot (fun n => f n a) R) : Tot (fun n => x.bind (f n)) R := by
  obtain ⟨a, rfl, hq⟩ := h
  exact k a hq
theorem Tot.ite {c : Prop} [Decidable c] {f g : Nat → Option α} (h1 : c → Tot f Q) (h2 : ¬ c → Tot g Q) : Tot (fun k => if c then f k else g k) Q := by
  by_cases h : c
  · simp only [if_pos h]; exact h1 h
  · simp only [if_neg h]; exact h2 h
theorem Tot.up {S : Type} (G : Nat → S → Nat → Option α) (n : Nat) (Inv : Nat → S → Prop)
    (step : ∀ i s, i < n → Inv i s → (∀ s', Inv (i + 1) s' → Tot (G (i + 1) s') Q) → Tot (G i s) Q) (stop : ∀ s, Inv n s → Tot (G n s) Q) (i : Nat) (hi : i ≤ n) (s : S) (hs : Inv i s) : Tot (G i s) Q := by
  obtain ⟨d, rfl⟩ : ∃ d, n = i + d := ⟨n - i, by omega⟩
  clear hi
  induction d generalizing i s with
  | zero => exact stop s hs
  | succ d ih =>
    refine step i s (by omega) hs fun s' h' => ?_
    exact ih (i + 1) s' h' (fun a b ha => step a b (by omega)) (by rw [show i + 1 + d = i + (d + 1) by omega]; exact stop)
end
def By (l : List Int) : Prop := ∀ x ∈ l, 0 ≤ x ∧ x ≤ 255
theorem by_wf {l : List Int} (h : ∀ x ∈ l, (Lit.int .u8 x).wf = true) : By l := by
  intro x hx
  have := h x hx
  simp [Lit.wf, IntKind.min, IntKind.max, IntKind.signed, IntKind.bits] at this
  omega
theorem By.rd {l : List Int} (h : By l) (i : Nat) : 0 ≤ rd l (i : Int) ∧ rd l (i : Int) ≤ 255 := by
  rw [rd_nat]
  by_cases hi : i < l.length
  · have := h l[i] (List.getElem_mem hi)
    simpa [hi] using this
  · simp [Nat.not_lt.1 hi]
theorem and_255 (x : Int) : 0 ≤ Go.bits .and .u64 x 255 ∧ Go.bits .and .u64 x 255 ≤ 255 := by
  have e : Go.bits .and .u64 x 255 = IntKind.u64.wrap (((BitVec.ofInt 64 x).toNat &&& 255 : Nat) : Int) := by
    show IntKind.u64.wrap ((BitVec.ofInt 64 x &&& BitVec.ofInt 64 255).toNat : Int) = _
    rw [BitVec.toNat_and]; rfl
  have h : (BitVec.ofInt 64 x).toNat &&& 255 ≤ 255 := Nat.and_le_right
  rw [e, u64_small _ (by omega)]
  omega
theorem wrap64_in (x : Int) (h0 : -9223372036854775808 ≤ x) (h1 : x ≤ 9223372036854775807) : wrap64 x = x := by unfold wrap64; omega
theorem next_ok {l : List Int} (hb : By l) (p h : Int) (hp : 0 ≤ p) (hp2 : p ≤ 1000000) : ∃ r, spec_l1Cur_next.f l p h = some r ∧ 0 ≤ r.1 ∧ r.1 ≤ 255 ∧ r.2.1 = p + 1 := by
  unfold spec_l1Cur_next.f
  obtain ⟨i, rfl⟩ := Int.eq_ofNat_of_zero_le hp
  have h1 := hb.rd i
  rw [wrap64_in ((i : Int) + 1) (by omega) (by omega)]
  have ha := fun x => and_255 x
  by_cases h0 : (i : Int) < (l.length : Int)
  · rw [if_pos h0, if_pos hp, if_pos (show (i : Int) + 1 ≤ (l.length : Int) by omega)]
    exact ⟨_, rfl, by rw [wrap64_in _ (by omega) (by omega)]; omega, by rw [wrap64_in _ (by omega) (by omega)]; omega, rfl⟩
  · rw [if_neg h0, if_neg (show ¬ (i : Int) + 1 ≤ (l.length : Int) by omega)]
    refine ⟨_, rfl, ?_, ?_, rfl⟩
    · have := ha ((IntKind.u64.wrap (IntKind.u64.wrap (IntKind.u64.wrap (h * 6364136223846793005)) + 1442695040888963407)) / 1099511627776)
      rw [wrap64_in _ (by omega) (by omega)]; exact this.1
    · have := ha ((IntKind.u64.wrap (IntKind.u64.wrap (IntKind.u64.wrap (h * 6364136223846793005)) + 1442695040888963407)) / 1099511627776)
      rw [wrap64_in _ (by omega) (by omega)]; exact this.2
theorem pick_ok {l : List Int} (hb : By l) (p h a : Int) (hp : 0 ≤ p) (hp2 : p ≤ 999990) : ∃ r, spec_l1Cur_pick.f l p h a = some r ∧ 0 ≤ r.1 ∧ (r.1 = 0 ∨ r.1 < a) ∧ p ≤ r.2.1 ∧ r.2.1 ≤ p + 2 := by
  unfold spec_l1Cur_pick.f
  by_cases h1 : a ≤ 1
  · rw [if_pos h1]; exact ⟨_, rfl, by simp, by simp, by simp, by simp; omega⟩
  · rw [if_neg h1]
    obtain ⟨⟨v, p1, h'⟩, e, a1, a2, a3⟩ := next_ok hb p h hp (by omega)
    simp only at a1 a2 a3
    subst a3
    rw [e, Option.bind_some]
    by_cases h2 : a > 200
    · rw [if_pos h2]
      obtain ⟨⟨v2, p2, h''⟩, e2, b1, b2, b3⟩ := next_ok hb (p + 1) h' (by omega) (by omega)
      simp only at b1 b2 b3
      subst b3
      rw [e2, Option.bind_some, if_neg (by omega)]
      refine ⟨_, rfl, ?_, ?_, by simp; omega, by simp; omega⟩
      all_goals
        simp only
        rw [wrap64_in (v * 256) (by omega) (by omega), wrap64_in (v * 256 + v2) (by omega) (by omega), Int.tmod_eq_emod_of_nonneg (by omega)]
      · exact Int.emod_nonneg _ (by omega)
      · exact .inr (Int.emod_lt_of_pos _ (by omega))
    · rw [if_neg h2, if_neg (by omega)]
      refine ⟨_, rfl, ?_, ?_, by simp only; omega, by simp only; omega⟩
      all_goals
        simp only
        rw [Int.tmod_eq_emod_of_nonneg (by omega)]
      · exact Int.emod_nonneg _ (by omega)
      · exact .inr (Int.emod_lt_of_pos _ (by omega))
theorem one_ok {l : List Int} (hb : By l) (p h a : Int) (hp : 0 ≤ p) (hp2 : p ≤ 999990) : ∃ r, spec_l1Cur_one.f l p h a = some r ∧ p ≤ r.2.1 ∧ r.2.1 ≤ p + 2 := by
  obtain ⟨r, e, h1⟩ := pick_ok hb p h a hp hp2
  unfold spec_l1Cur_one.f
  rw [e]
  exact ⟨_, rfl, h1.2.2.1, h1.2.2.2⟩
theorem among_ok {l : List Int} (hb : By l) (p h : Int) (z : List Int) (hz : z ≠ []) (hp : 0 ≤ p) (hp2 : p ≤ 999990) : ∃ r, spec_l1Cur_among.f l p h z = some r ∧ r.1 ∈ z ∧ p ≤ r.2.1 ∧ r.2.1 ≤ p + 2 := by
  obtain ⟨r, e, h1, h2, h3⟩ := pick_ok hb p h (z.length : Int) hp hp2
  have hz' := List.length_pos_iff.2 hz
  unfold spec_l1Cur_among.f
  rw [e, Option.bind_some, if_pos h1, if_pos (by omega)]
  refine ⟨_, rfl, ?_, h3⟩
  obtain ⟨i, hi⟩ := Int.eq_ofNat_of_zero_le h1
  simp only [hi]
  rw [rd_get z i (by omega)]
  exact List.getElem_mem _
end Go.Proofs.YtjdkcafpgebjfaaDoor.M
namespace Go.Proofs.YtjdkcafpgebjfaaDoor.P
open Go.RowKit Go.Proofs.YtjdkcafpgebjfaaDoorW.PrintWords Go.Proofs.YtjdkcafpgebjfaaDoorW.PrintLast Go.Proofs.YtjdkcafpgebjfaaDoorW.PrintMore
open Bool renaming true → T, false → F
open List renaming setIfInBounds_toArray → L_, set_cons_zero → M_, set_cons_succ → N_, map_toArray → P_, map_cons → Q_, map_nil → R_, length_drop → S_, length_take → U_
open Aside0 renaming mk → A_
attribute [local go_sem] max2_int min2_int max_two min_two max_three min_three max_four min_four
set_option linter.unusedVariables false
set_option linter.unusedSimpArgs false
attribute [local go_sem] fldOrder_0 fldOrder_1
def spec_orBelow.l0 : Nat → Int → Int → List Int → Int → Int → Option (Int)
 | 0,_,_,_,_,_=>none
 | k + 1,x1,x5,x9,x10,x11=>if x11 < x10 then (if 0 ≤ x11 then (if x11 < (x9.length : Int) then ((spec_orHas.f (rd x9 x11) x1).bind fun t619=>(if t619 = true then (spec_orBelow.l0 k x1 (Go.bits .or .i64 x5 (shl .i64 1 x11)) x9 x10 (wrap64 (x11 + 1))) else (spec_orBelow.l0 k x1 x5 x9 x10 (wrap64 (x11 + 1))))) else (none)) else (none)) else (some x5)
def spec_orBelow.f (k : Nat) (a0_0 : Int) (l0_1 : List Int) (a1 : Int) : Option (Int) := spec_orBelow.l0 k a1 0 l0_1 (l0_1.length : Int) 0
def spec_orMirror.l0 : Nat → Int → Int → Int → List Int → Int → List Int → Option (Int × List Int)
 | 0,_,_,_,_,_,_=>none
 | k + 1,x10,x11,x621000,x621001,x623000,x623001=>if x11 < x10 then ((spec_orBelow.f k x621000 x621001 x11).bind fun t623=>(if x623001.length < 17592186044416 then (spec_orMirror.l0 k x10 (wrap64 (x11 + 1)) x621000 x621001 x623000 (x623001 ++ [t623])) else (none))) else (some (x623000,x623001))
def spec_orMirror.f (k : Nat) (a0_0 : Int) (l0_1 : List Int) : Option (Int × List Int) := spec_orMirror.l0 k (l0_1.length : Int) 0 a0_0 l0_1 a0_0 ([] : List Int)
def laws_pSame.l0 : Nat → List Int → List Int → Int → Int → Option (Bool)
 | 0,_,_,_,_=>none
 | k + 1,x0,x1,x12,x13=>if x13 < x12 then (if 0 ≤ x13 then (if x13 < (x0.length : Int) then (if x13 < (x1.length : Int) then (if (rd x0 x13) = (rd x1 x13) then (laws_pSame.l0 k x0 x1 x12 (wrap64 (x13 + 1))) else (some false)) else (none)) else (none)) else (none)) else (some true)

end Go.Proofs.YtjdkcafpgebjfaaDoor.P
namespace Go.Proofs.YtjdkcafpgebjfaaDoor.P
open Go.RowKit Go.Proofs.YtjdkcafpgebjfaaDoorW.PrintWords Go.Proofs.YtjdkcafpgebjfaaDoorW.PrintLast Go.Proofs.YtjdkcafpgebjfaaDoorW.PrintMore
open Bool renaming true → T, false → F
open List renaming setIfInBounds_toArray → L_, set_cons_zero → M_, set_cons_succ → N_, map_toArray → P_, map_cons → Q_, map_nil → R_, length_drop → S_, length_take → U_
open Aside0 renaming mk → A_
attribute [local go_sem] max2_int min2_int max_two min_two max_three min_three max_four min_four
set_option linter.unusedVariables false
set_option linter.unusedSimpArgs false
attribute [local go_sem] fldOrder_0 fldOrder_1
end Go.Proofs.YtjdkcafpgebjfaaDoor.P
namespace Go.Proofs.YtjdkcafpgebjfaaDoor.M
open Go.RowKit Go.Proofs.YtjdkcafpgebjfaaDoorW.PrintMore Go.Proofs.YtjdkcafpgebjfaaDoorW.PrintLast Go.Proofs.YtjdkcafpgebjfaaDoorW.PrintWords Go.Proofs.YtjdkcafpgebjfaaDoor.P
def mir (n : Nat) (l : List Int) : List Int := relL n fun i j => B l j i
theorem mir_rel {n : Nat} {l : List Int} (h : Rel n l) : Rel n (mir n l) := relL_rel n h.le _
theorem mir_B {n : Nat} {l : List Int} (h : Rel n l) (i j : Nat) : B (mir n l) i j = B l j i := by
  unfold mir
  rw [relL_B]
  cases hb : B l j i with
  | false => simp
  | true => simp [h.B_lt hb, h.B_lt' hb]
theorem mirror_ev {n : Nat} {l : List Int} (h : Rel n l) : Ev (fun k => impl_Order_mirror.f k (n : Int) l) ((n : Int), mir n l) := by
  have hn := h.le
  unfold impl_Order_mirror.f
  refine Ev.bind (relation_ev n (by omega) (fun _ x y => impl_Order_mirror_1.f x y (n : Int) l) (fun i j => B l j i) ?_) (Ev.now _)
  intro i j hi hj
  refine Ev.const ?_
  unfold impl_Order_mirror_1.f
  rw [better_eq h n j i hj (by omega)]
  rfl
theorem orBelow_ev {n : Nat} {l : List Int} (h : Rel n l) (z : Int) (i : Nat) (hi : i ≤ 62) : Ev (fun k => spec_orBelow.f k z l (i : Int)) ((setOf n fun j => B l j i : Nat) : Int) := by
  have hlen := h.len
  have hn := h.le
  unfold spec_orBelow.f
  rw [hlen]
  refine Ev.up (fun j k => spec_orBelow.l0 k (i : Int) ((setOf j fun j => B l j i : Nat) : Int) l (n : Int) (j : Int)) n ?_ ?_
  · intro j hj next
    refine Ev.step (fun _ => rfl) ?_
    rw [setOf_bit_or] at next
    simp only [spec_orBelow.l0, if_pos (show (j : Int) < (n : Int) by omega), if_pos (show (0 : Int) ≤ (j : Int) by omega), hlen, h.rd, orHas_eq _ i (by omega), Option.bind_some, next64 j n hj (by omega)]
    rw [show (row l j).testBit i = B l j i from rfl]
    cases hb : B l j i with
    | false =>
      rw [hb] at next
      simpa using next
    | true =>
      rw [hb] at next
      have h2 : (2 : Nat) ^ j < 9223372036854775808 := Nat.lt_of_le_of_lt (Nat.pow_le_pow_right (by decide) (by omega : j ≤ 62)) (by decide)
      simp only [if_true]
      rw [shl1 j (by omega), or_i64 (setOf j fun j => B l j i) (2 ^ j) (setOf_62 _ _ (by omega)) h2]
      simpa using next
  · refine Ev.step (fun _ => rfl) ?_
    simp only [spec_orBelow.l0, if_neg (show ¬ (n : Int) < (n : Int) by omega)]
    exact Ev.now _
theorem orMirror_ev {n : Nat} {l : List Int} (h : Rel n l) (z : Int) : Ev (fun k => spec_orMirror.f k z l) (z, mir n l) := by
  have hlen := h.len
  have hn := h.le
  unfold spec_orMirror.f
  rw [hlen]
  refine Ev.up (fun i k => spec_orMirror.l0 k (n : Int) (i : Int) z l z ((List.range i).map fun i => ((setOf n fun j => B l j i : Nat) : Int))) n ?_ ?_
  · intro i hi next
    refine Ev.step (fun _ => rfl) ?_
    simp only [spec_orMirror.l0, if_pos (show (i : Int) < (n : Int) by omega), next64 i n hi (by omega), List.length_map, List.length_range, if_pos (show i < 17592186044416 by omega)]
    refine Ev.bind (orBelow_ev h z i (by omega)) ?_
    simpa [List.range_succ] using next
  · refine Ev.step (fun _ => rfl) ?_
    simp only [spec_orMirror.l0, if_neg (show ¬ (n : Int) < (n : Int) by omega)]
    exact Ev.now _
def indif (n : Nat) (l : List Int) (i : Nat) : Nat := setOf n fun j => !B l i j && (!B l j i && decide (j ≠ i))
theorem all_eq (n : Nat) (l : List Int) (hn : n ≤ 10) : impl_Order_all.f (n : Int) l = some ((2 ^ n - 1 : Nat) : Int) := by
  unfold impl_Order_all.f
  rw [if_pos (by omega), pow_of n (by omega) (by omega), Int.toNat_natCast]
  have := Nat.two_pow_pos n
  congr 1
  omega
theorem indifs_ev {n : Nat} {l : List Int} (h : Rel n l) : Ev (fun k => impl_Order_indifferent.f k (n : Int) l) ((List.range n).map fun i => ((indif n l i : Nat) : Int)) := by
  have hlen := h.len
  have hn := h.le
  have hm := mir_rel h
  unfold impl_Order_indifferent.f
  refine Ev.bind (mirror_ev h) ?_
  refine Ev.up (fun i k => impl_Order_indifferent.l0 k ((List.range i).map fun i => ((indif n l i : Nat) : Int)) (n : Int) (i : Int) (n : Int) l (n : Int) (mir n l)) n ?_ ?_
  · intro i hi next
    refine Ev.step (fun _ => rfl) ?_
    have hp : (2 : Nat) ^ n - 1 < 9223372036854775808 := by
      have : (2 : Nat) ^ n ≤ 2 ^ 10 := Nat.pow_le_pow_right (by decide) hn
      omega
    have h2 : (2 : Nat) ^ i < 9223372036854775808 := Nat.lt_of_le_of_lt (Nat.pow_le_pow_right (by decide) (by omega : i ≤ 62)) (by decide)
    have le1 : ∀ a b, diff a b ≤ a := fun a b => Nat.and_le_left
    have e : diff (diff (diff (2 ^ n - 1) (row l i)) (row (mir n l) i)) (2 ^ i) = indif n l i := by
      apply Nat.eq_of_testBit_eq
      intro j
      unfold indif
      rw [testBit_setOf, testBit_diff, testBit_diff, testBit_diff, Nat.testBit_two_pow_sub_one, Nat.testBit_two_pow, show (row l i).testBit j = B l i j from rfl, show (row (mir n l) i).testBit j = B (mir n l) i j from rfl, mir_B h, Bool.and_assoc, Bool.and_assoc]
      by_cases hj : i = j
      · simp [hj]
      · simp [hj, Ne.symm hj]
    have g1 := le1 (2 ^ n - 1) (row l i)
    have g2 := le1 (diff (2 ^ n - 1) (row l i)) (row (mir n l) i)
    simp only [impl_Order_indifferent.l0, if_pos (show (i : Int) < (n : Int) by omega), all_eq n l hn, Option.bind_some, if_pos (show (0 : Int) ≤ (i : Int) by omega), hlen, hm.len, List.length_map, List.length_range, if_pos (show i < 17592186044416 by omega), h.rd, hm.rd, shl1 i (by omega), andNot_i64 _ _ hp (h.row_62 i), andNot_i64 _ _ (show diff (2 ^ n - 1) (row l i) < 9223372036854775808 by omega) (hm.row_62 i),
      andNot_i64 _ _ (show diff (diff (2 ^ n - 1) (row l i)) (row (mir n l) i) < 9223372036854775808 by omega) h2, e, next64 i n hi (by omega)]
    simpa [List.range_succ] using next
  · refine Ev.step (fun _ => rfl) ?_
    simp only [impl_Order_indifferent.l0, if_neg (show ¬ (n : Int) < (n : Int) by omega)]
    exact Ev.now _
end Go.Proofs.YtjdkcafpgebjfaaDoor.M
namespace Go.Proofs.YtjdkcafpgebjfaaDoor.M
open Go.RowKit Go.Proofs.YtjdkcafpgebjfaaDoorW.PrintMore Go.Proofs.YtjdkcafpgebjfaaDoorW.PrintLast Go.Proofs.YtjdkcafpgebjfaaDoorW.PrintWords Go.Proofs.YtjdkcafpgebjfaaDoor.P
def plP (t : Int) (z : List Int) (i j : Nat) : Bool := decide (z.getD j 0 - z.getD i 0 ≥ t)
def plR (t : Int) (z : List Int) : List Int := relL z.length (plP t z)
def plOk (t : Int) (z : List Int) : Bool := decide (1 ≤ t ∧ t ≤ 10) && (decide (z.length ≤ 10) && allIn z 0 1000)
structure Places (t : Int) (z : List Int) : Prop where
  t1 : 1 ≤ t
  t2 : t ≤ 10
  len : z.length ≤ 10
  mem : ∀ i, 0 ≤ z.getD i 0 ∧ z.getD i 0 ≤ 1000
theorem plOk_iff {t : Int} {z : List Int} : plOk t z = true ↔ Places t z := by
  unfold plOk allIn
  simp only [Bool.and_eq_true, decide_eq_true_iff]
  constructor
  · rintro ⟨⟨h1, h2⟩, h3, h4⟩
    refine ⟨h1, h2, h3, fun i => ?_⟩
    by_cases hi : i < z.length
    · have := h4 z[i] (List.getElem_mem hi)
      simpa [hi] using this
    · simp [Nat.not_lt.1 hi]
  · intro h
    refine ⟨⟨h.t1, h.t2⟩, h.len, fun x hx => ?_⟩
    obtain ⟨i, hi, rfl⟩ := List.getElem_of_mem hx
    have := h.mem i
    simpa [hi] using this
theorem placed_ev {t : Int} {z : List Int} (hl : z.length ≤ 62) (hz : ∀ i, 0 ≤ z.getD i 0 ∧ z.getD i 0 ≤ 1000) : Ev (fun k => impl_placed.f k t z) ((z.length : Int), plR t z) := by
  unfold impl_placed.f
  refine Ev.bind (relation_ev z.length hl (fun _ x y => impl_placed_1.f x y z t) (plP t z) ?_) (Ev.now _)
  intro i j hi hj
  refine Ev.const ?_
  unfold impl_placed_1.f
  have h1 := hz i
  have h2 := hz j
  rw [if_pos (by omega), if_pos (by omega), if_pos (by omega), if_pos (by omega), rd_nat, rd_nat, wrap64_in _ (by omega) (by omega)]
  rfl
theorem OrderOfPlaces_ev (t : Int) (z : List Int) (hl : z.length ≤ 140737488355328) : Ev (fun k => impl_OrderOfPlaces.f k t z) (if plOk t z then ((z.length : Int), plR t z, true) else (0, [], false)) := by
  unfold impl_OrderOfPlaces.f
  rw [within_eq]
  simp only [Option.bind_some]
  by_cases h1 : 1 ≤ t ∧ t ≤ 10
  · simp only [decide_eq_true h1, if_true]
    by_cases h2 : z.length ≤ 10
    · simp only [if_neg (show ¬ (z.length : Int) > 10 by omega)]
      refine Ev.bind (allWithin_ev z 0 1000 hl) ?_
      cases h3 : allIn z 0 1000 with
      | false =>
        simp only [Bool.false_eq_true, if_false]
        exact Ev.to (Ev.now _) (by unfold plOk; rw [h3]; simp)
      | true =>
        have hk : plOk t z = true := by unfold plOk; rw [h3, decide_eq_true h1, decide_eq_true h2]; rfl
        have hp := plOk_iff.1 hk
        simp only [if_true, hk]
        exact Ev.bind (placed_ev (by omega) hp.mem) (Ev.now _)
    · simp only [if_pos (show (z.length : Int) > 10 by omega)]
      exact Ev.to (Ev.now _) (by unfold plOk; rw [decide_eq_false h2]; simp)
  · simp only [decide_eq_false h1, Bool.false_eq_true, if_false]
    exact Ev.to (Ev.now _) (by unfold plOk; rw [decide_eq_false h1]; simp)
theorem sOrderOfPlaces_ev (t : Int) (z : List Int) (hl : z.length ≤ 140737488355328) : Ev (fun k => spec_OrderOfPlaces.f k t z) (if plOk t z then ((z.length : Int), plR t z, true) else (0, [], false)) := by
  have no : plOk t z = false → Ev (fun k => spec_OrderOfPlaces.j0 k t z true) (if plOk t z then ((z.length : Int), plR t z, true) else (0, [], false)) := by
    intro h
    refine Ev.step (fun _ => rfl) ?_
    simp only [spec_OrderOfPlaces.j0, if_true, h, Bool.false_eq_true, if_false]
    exact Ev.now _
  unfold spec_OrderOfPlaces.f spec_seThreshold.f
  rw [l1In_eq]
  simp only [Option.bind_some]
  by_cases h1 : 1 ≤ t ∧ t ≤ 10
  · simp only [decide_eq_true h1, if_true]
    by_cases h2 : z.length ≤ 10
    · simp only [if_neg (show ¬ (z.length : Int) > 10 by omega)]
      refine Ev.bind (l1All_ev z 0 1000 hl) ?_
      cases h3 : allIn z 0 1000 with
      | false => exact no (by unfold plOk; rw [h3]; simp)
      | true =>
        have hk : plOk t z = true := by unfold plOk; rw [h3, decide_eq_true h1, decide_eq_true h2]; rfl
        have hp := plOk_iff.1 hk
        refine Ev.step (fun _ => rfl) ?_
        simp only [spec_OrderOfPlaces.j0, Bool.not_true, Bool.false_eq_true, if_false, hk, if_true]
        have h0 : Ev (fun k => spec_OrderOfPlaces.l0 k t z z (z.length : Int) ((0 : Nat) : Int) (z.length : Int) ((List.range 0).map fun i => ((setOf z.length (plP t z i) : Nat) : Int))) ((z.length : Int), plR t z, true) := by
          refine Ev.up (fun i k => spec_OrderOfPlaces.l0 k t z z (z.length : Int) (i : Int) (z.length : Int) ((List.range i).map fun i => ((setOf z.length (plP t z i) : Nat) : Int))) z.length ?_ ?_
          · intro i hi next
            refine Ev.step (fun _ => rfl) ?_
            simp only [spec_OrderOfPlaces.l0, if_pos (show (i : Int) < (z.length : Int) by omega), if_pos (show (0 : Int) ≤ (i : Int) by omega)]
            refine Ev.up (fun j k => spec_OrderOfPlaces.l1 k t z (rd z (i : Int)) ((setOf j (plP t z i) : Nat) : Int) z (z.length : Int) (i : Int) z (z.length : Int) (j : Int) (z.length : Int) ((List.range i).map fun i => ((setOf z.length (plP t z i) : Nat) : Int))) z.length ?_ ?_
            · intro j hj next
              have a1 := hp.mem i
              have a2 := hp.mem j
              refine Ev.step (fun _ => rfl) ?_
              rw [setOf_bit_or, rd_nat] at next
              simp only [spec_OrderOfPlaces.l1, if_pos (show (j : Int) < (z.length : Int) by omega), if_pos (show (0 : Int) ≤ (j : Int) by omega), rd_nat, wrap64_in (z.getD i 0 + t) (by omega) (by omega), next64 j z.length hj (by omega)]
              by_cases hb : z.getD j 0 ≥ z.getD i 0 + t
              · rw [show plP t z i j = true from decide_eq_true (by omega)] at next
                simp only [if_pos hb]
                rw [shl1 j (by omega), or_i64 (setOf j (plP t z i)) (2 ^ j) (setOf_62 _ _ (by omega)) (Nat.lt_of_le_of_lt (Nat.pow_le_pow_right (by decide) (by omega : j ≤ 62)) (by decide))]
                simpa using next
              · rw [show plP t z i j = false from decide_eq_false (by omega)] at next
                simp only [if_neg hb]
                simpa using next
            · refine Ev.step (fun _ => rfl) ?_
              simp only [spec_OrderOfPlaces.l1, if_neg (show ¬ (z.length : Int) < (z.length : Int) by omega), List.length_map, List.length_range, if_pos (show i < 17592186044416 by omega), next64 i z.length hi (by omega)]
              simpa [List.range_succ] using next
          · refine Ev.step (fun _ => rfl) ?_
            simp only [spec_OrderOfPlaces.l0, if_neg (show ¬ (z.length : Int) < (z.length : Int) by omega)]
            exact Ev.now _
        exact h0
    · simp only [if_pos (show (z.length : Int) > 10 by omega)]
      exact no (by unfold plOk; rw [decide_eq_false h2]; simp)
  · simp only [decide_eq_false h1, Bool.false_eq_true, if_false]
    exact no (by unfold plOk; rw [decide_eq_false h1]; simp)
section
variable {t : Int} {z : List Int}
theorem plR_B (i j : Nat) (hi : i < z.length) (hj : j < z.length) : B (plR t z) i j = plP t z i j := by unfold plR; rw [relL_B]; simp [hi, hj]
theorem plR_ord (h : Places t z) : Ord z.length (plR t z) where
  toRel := relL_rel _ h.len _
  irr := by
    intro i
    unfold plR plP
    rw [relL_B, decide_eq_false (show ¬ z.getD i 0 - z.getD i 0 ≥ t by have := h.t1; omega)]
    simp
  trans := by
    intro i j k h1 h2
    unfold plR plP at h1 h2 ⊢
    rw [relL_B] at h1 h2 ⊢
    simp only [Bool.and_eq_true, decide_eq_true_iff] at h1 h2 ⊢
    have := h.t1
    omega
theorem twoTwo_ev (h : Places t z) : Ev (fun k => impl_Order_twoTwo.f k (z.length : Int) (plR t z)) [] := by
  have o := plR_ord h
  have hn := h.len
  have bt : ∀ i j, i < z.length → j < z.length → impl_Order_better.f (z.length : Int) (plR t z) (i : Int) (j : Int) = some (plP t z i j) := fun i j hi hj => by rw [better_eq o.toRel _ i j hi (by omega), plR_B i j hi hj]
  unfold impl_Order_twoTwo.f
  refine Ev.up (fun a k => impl_Order_twoTwo.l0 k (z.length : Int) (a : Int) (z.length : Int) (plR t z)) z.length ?_ ?_
  · intro a ha next
    refine Ev.step (fun _ => rfl) ?_
    simp only [impl_Order_twoTwo.l0, if_pos (show (a : Int) < (z.length : Int) by omega)]
    refine Ev.up (fun b k => impl_Order_twoTwo.l1 k (a : Int) (z.length : Int) (a : Int) (z.length : Int) (b : Int) (z.length : Int) (plR t z)) z.length ?_ ?_
    · intro b hb next
      refine Ev.step (fun _ => rfl) ?_
      simp only [impl_Order_twoTwo.l1, if_pos (show (b : Int) < (z.length : Int) by omega)]
      refine Ev.up (fun c k => impl_Order_twoTwo.l2 k (a : Int) (b : Int) (z.length : Int) (a : Int) (z.length : Int) (b : Int) (z.length : Int) (c : Int) (z.length : Int) (plR t z)) z.length ?_ ?_
      · intro c hc next
        refine Ev.step (fun _ => rfl) ?_
        simp only [impl_Order_twoTwo.l2, if_pos (show (c : Int) < (z.length : Int) by omega)]
        refine Ev.up (fun d k => impl_Order_twoTwo.l3 k (a : Int) (b : Int) (c : Int) (z.length : Int) (a : Int) (z.length : Int) (b : Int) (z.length : Int) (c : Int) (z.length : Int) (d : Int) (z.length : Int) (plR t z)) z.length ?_ ?_
        · intro d hd next
          refine Ev.step (fun _ => rfl) ?_
          simp only [impl_Order_twoTwo.l3, if_pos (show (d : Int) < (z.length : Int) by omega), bt a b ha hb, bt c d hc hd, bt c b hc hb, bt a d ha hd, Option.bind_some, next64 d z.length hd (by omega)]
          cases h1 : plP t z a b with
          | false => simpa using next
          | true =>
            cases h2 : plP t z c d with
            | false => simpa using next
            | true =>
              cases h3 : plP t z c b with
              | true => simpa using next
              | false =>
                cases h4 : plP t z a d with
                | true => simpa using next
                | false =>
                  exfalso
                  have a1 := of_decide_eq_true h1
                  have a2 := of_decide_eq_true h2
                  have a3 := of_decide_eq_false h3
                  have a4 := of_decide_eq_false h4
                  omega
        · refine Ev.step (fun _ => rfl) ?_
          simp only [impl_Order_twoTwo.l3, if_neg (show ¬ (z.length : Int) < (z.length : Int) by omega), next64 c z.length hc (by omega)]
          exact next
      · refine Ev.step (fun _ => rfl) ?_
        simp only [impl_Order_twoTwo.l2, if_neg (show ¬ (z.length : Int) < (z.length : Int) by omega), next64 b z.length hb (by omega)]
        exact next
    · refine Ev.step (fun _ => rfl) ?_
      simp only [impl_Order_twoTwo.l1, if_neg (show ¬ (z.length : Int) < (z.length : Int) by omega), next64 a z.length ha (by omega)]
      exact next
  · refine Ev.step (fun _ => rfl) ?_
    simp only [impl_Order_twoTwo.l0, if_neg (show ¬ (z.length : Int) < (z.length : Int) by omega)]
    exact Ev.now _
theorem indif_62 {n : Nat} (hn : n ≤ 10) (l : List Int) (i : Nat) : indif n l i < 9223372036854775808 := setOf_62 _ _ (by omega)
theorem no_between (h : Places t z) (a b c : Nat) (h1 : B (plR t z) a b = true) (h2 : B (plR t z) b c = true) : (indif z.length (plR t z) a &&& indif z.length (plR t z) b) &&& indif z.length (plR t z) c = 0 := by
  have o := plR_ord h
  have ha := o.toRel.B_lt' h1
  have hb := o.toRel.B_lt h1
  have hc := o.toRel.B_lt h2
  apply Nat.eq_of_testBit_eq
  intro d
  rw [Nat.testBit_and, Nat.testBit_and, Nat.zero_testBit]
  by_cases hd : d < z.length
  · have e : ∀ i, i < z.length → (indif z.length (plR t z) i).testBit d = (!plP t z i d && (!plP t z d i && decide (d ≠ i))) := by
      intro i hi
      unfold indif
      rw [testBit_setOf, plR_B i d hi hd, plR_B d i hd hi, decide_eq_true hd, Bool.true_and]
    rw [e a ha, e b hb, e c hc]
    rw [plR_B a b ha hb] at h1
    rw [plR_B b c hb hc] at h2
    have a1 := of_decide_eq_true h1
    have a2 := of_decide_eq_true h2
    cases h3 : plP t z a d with
    | true => simp
    | false =>
      cases h4 : plP t z d c with
      | true => simp
      | false =>
        have a3 := of_decide_eq_false h3
        have a4 := of_decide_eq_false h4
        have := h.t1
        exfalso
        omega
  · unfold indif
    rw [testBit_setOf, decide_eq_false hd]
    simp
theorem threeOne_ev (h : Places t z) : Ev (fun k => impl_Order_threeOne.f k (z.length : Int) (plR t z)) [] := by
  have o := plR_ord h
  have r := o.toRel
  have hn := h.len
  unfold impl_Order_threeOne.f
  refine Ev.bind (indifs_ev r) ?_
  have hI : ∀ i, i < z.length → rd ((List.range z.length).map fun i => ((indif z.length (plR t z) i : Nat) : Int)) (i : Int) = ((indif z.length (plR t z) i : Nat) : Int) := fun i hi => by rw [rd_nat]; simp [hi]
  refine Ev.up (fun a k => impl_Order_threeOne.l0 k ((List.range z.length).map fun i => ((indif z.length (plR t z) i : Nat) : Int)) (z.length : Int) (a : Int) (z.length : Int) (plR t z)) z.length ?_ ?_
  · intro a ha next
    refine Ev.step (fun _ => rfl) ?_
    simp only [impl_Order_threeOne.l0, if_pos (show (a : Int) < (z.length : Int) by omega), if_pos (show (0 : Int) ≤ (a : Int) by omega), r.len, r.rd]
    refine Ev.bind (members_ev z.length (by omega) _ (r.row_lt a)) ?_
    have hE := elems_length_le z.length (row (plR t z) a)
    rw [ints_length]
    refine Ev.up (fun q k => impl_Order_threeOne.l1 k ((List.range z.length).map fun i => ((indif z.length (plR t z) i : Nat) : Int)) (a : Int) (z.length : Int) (a : Int) (ints (elems z.length (row (plR t z) a))) ((elems z.length (row (plR t z) a)).length : Int) (q : Int) (z.length : Int) (plR t z)) (elems z.length (row (plR t z) a)).length ?_ ?_
    · intro q hq next
      refine Ev.step (fun _ => rfl) ?_
      have hmem : (elems z.length (row (plR t z) a)).getD q 0 ∈ elems z.length (row (plR t z) a) := by simp [hq]
      have hlt := (mem_elems.1 hmem).1
      have hab : B (plR t z) a ((elems z.length (row (plR t z) a)).getD q 0) = true := (mem_elems.1 hmem).2
      have e0 : rd (ints (elems z.length (row (plR t z) a))) (q : Int) = (((elems z.length (row (plR t z) a)).getD q 0 : Nat) : Int) := by rw [rd_nat, ints_getD _ _ hq]
      generalize (elems z.length (row (plR t z) a)).getD q 0 = b at hmem hlt hab e0
      simp only [impl_Order_threeOne.l1, if_pos (show (q : Int) < ((elems z.length (row (plR t z) a)).length : Int) by omega), if_pos (show (0 : Int) ≤ (q : Int) by omega), ints_length, e0, if_pos (show (0 : Int) ≤ (b : Int) by omega), r.len, if_pos (show (b : Int) < (z.length : Int) by omega), r.rd]
      refine Ev.bind (members_ev z.length (by omega) _ (r.row_lt b)) ?_
      have hE2 := elems_length_le z.length (row (plR t z) b)
      rw [ints_length]
      refine Ev.up (fun s k => impl_Order_threeOne.l2 k ((List.range z.length).map fun i => ((indif z.length (plR t z) i : Nat) : Int)) (a : Int) (b : Int) (z.length : Int) (a : Int) (ints (elems z.length (row (plR t z) a))) ((elems z.length (row (plR t z) a)).length : Int) (q : Int) (ints (elems z.length (row (plR t z) b))) ((elems z.length (row (plR t z) b)).length : Int) (s : Int) (z.length : Int) (plR t z)) (elems z.length (row (plR t z) b)).length ?_ ?_
      · intro s hs next
        refine Ev.step (fun _ => rfl) ?_
        have hmem2 : (elems z.length (row (plR t z) b)).getD s 0 ∈ elems z.length (row (plR t z) b) := by simp [hs]
        have hlt2 := (mem_elems.1 hmem2).1
        have hbc : B (plR t z) b ((elems z.length (row (plR t z) b)).getD s 0) = true := (mem_elems.1 hmem2).2
        have e1 : rd (ints (elems z.length (row (plR t z) b))) (s : Int) = (((elems z.length (row (plR t z) b)).getD s 0 : Nat) : Int) := by rw [rd_nat, ints_getD _ _ hs]
        generalize (elems z.length (row (plR t z) b)).getD s 0 = c at hmem2 hlt2 hbc e1
        have i1 := indif_62 hn (plR t z) a
        have i2 := indif_62 hn (plR t z) b
        have i3 := indif_62 hn (plR t z) c
        have i4 : indif z.length (plR t z) a &&& indif z.length (plR t z) b < 9223372036854775808 := Nat.lt_of_le_of_lt Nat.and_le_left i1
        simp only [impl_Order_threeOne.l2, if_pos (show (s : Int) < ((elems z.length (row (plR t z) b)).length : Int) by omega), if_pos (show (0 : Int) ≤ (s : Int) by omega), ints_length, e1, if_pos (show (0 : Int) ≤ (a : Int) by omega), List.length_map, List.length_range, if_pos (show (a : Int) < (z.length : Int) by omega), if_pos (show (0 : Int) ≤ (b : Int) by omega), if_pos (show (b : Int) < (z.length : Int) by omega), if_pos (show (0 : Int) ≤ (c : Int) by omega), if_pos (show (c : Int) < (z.length : Int) by omega), hI a ha, hI b hlt, hI c hlt2,
          and_i64 _ _ i1 i2, and_i64 _ _ i4 i3, no_between h a b c hab hbc, Int.natCast_zero, if_true, next64 s _ hs (by omega)]
        exact next
      · refine Ev.step (fun _ => rfl) ?_
        simp only [impl_Order_threeOne.l2, if_neg (show ¬ ((elems z.length (row (plR t z) b)).length : Int) < ((elems z.length (row (plR t z) b)).length : Int) by omega), next64 q _ hq (by omega)]
        exact next
    · refine Ev.step (fun _ => rfl) ?_
      simp only [impl_Order_threeOne.l1, if_neg (show ¬ ((elems z.length (row (plR t z) a)).length : Int) < ((elems z.length (row (plR t z) a)).length : Int) by omega), next64 a z.length ha (by omega)]
      exact next
  · refine Ev.step (fun _ => rfl) ?_
    simp only [impl_Order_threeOne.l0, if_neg (show ¬ (z.length : Int) < (z.length : Int) by omega)]
    exact Ev.now _
theorem IsSemi_pl (h : Places t z) : Ev (fun k => impl_IsSemiorder.f k (z.length : Int) (plR t z)) (true, true) := by
  have o := plR_ord h
  have hO : Ev (fun k => impl_IsOrder.f k (z.length : Int) (plR t z)) true := Ev.to (IsOrder_ev _ _ (by rw [o.len]; have := h.len; omega)) (isOrd_iff.2 ⟨_, rfl, o⟩)
  unfold impl_IsSemiorder.f
  refine Ev.bind hO ?_
  simp only [if_true]
  refine Ev.bind (a := true) ?_ (Ev.now _)
  unfold impl_isSemi.f
  refine Ev.bind (a := true) ?_ ?_
  · unfold impl_isInterval.f
    refine Ev.bind hO ?_
    simp only [if_true]
    exact Ev.bind (twoTwo_ev h) (Ev.now _)
  · simp only [if_true]
    exact Ev.bind (threeOne_ev h) (Ev.now _)
end
end Go.Proofs.YtjdkcafpgebjfaaDoor.M
namespace Go.Proofs.YtjdkcafpgebjfaaDoor.Pure
open Go.RowKit Go.Proofs.YtjdkcafpgebjfaaDoorW.PrintMore Go.Proofs.YtjdkcafpgebjfaaDoorW.PrintLast Go.Proofs.YtjdkcafpgebjfaaDoorW.PrintWords Go.Proofs.YtjdkcafpgebjfaaDoor.P Go.Proofs.YtjdkcafpgebjfaaDoor.M
set_option maxRecDepth 4000
theorem threshold_ok {l : List Int} (hb : By l) (p h : Int) (hp : 0 ≤ p) (hp2 : p ≤ 999000) : ∃ r, spec_l1Cur_threshold.f l p h = some r ∧ True := by
  unfold spec_l1Cur_threshold.f
  obtain ⟨⟨v, p1, h1⟩, e, a1, a2⟩ := one_ok hb p h 12 hp (by omega)
  simp only at a1 a2
  rw [e, Option.bind_some]
  cases v with
  | true =>
    obtain ⟨⟨v, p2, h2⟩, e, _, b1, b2⟩ := among_ok hb p1 h1 [(-1), 0, 10, 11] (by simp) (by omega) (by omega)
    simp only [if_true]
    rw [e]
    exact ⟨_, rfl, trivial⟩
  | false =>
    obtain ⟨⟨v, p2, h2⟩, e, _⟩ := pick_ok hb p1 h1 5 (by omega) (by omega)
    simp only [Bool.false_eq_true, if_false]
    rw [e]
    exact ⟨_, rfl, trivial⟩
theorem DrawOrderOfPlaces_tot {l : List Int} (hb : By l) : Tot (fun k => spec_DrawOrderOfPlaces.f k l) (fun r => r.2.length ≤ 12) := by
  unfold spec_DrawOrderOfPlaces.f
  refine Tot.obind (pick_ok hb 0 0 8 (by omega) (by omega)) ?_
  rintro ⟨n, p, h⟩ ⟨n0, n1, n2, n3⟩
  simp only at n0 n1 n2 n3
  obtain ⟨m, rfl⟩ := Int.eq_ofNat_of_zero_le n0
  have hm : m ≤ 8 := by omega
  have h0 := Tot.up (Q := fun r : Int × List Int => r.2.length ≤ 12) (fun i (s : List Int × Int × Int) k => spec_DrawOrderOfPlaces.l0 k s.1 ((m - i : Nat) : Int) l s.2.1 s.2.2) m (fun i s => s.1.length = i ∧ 0 ≤ s.2.1 ∧ s.2.1 ≤ 10 + 10 * (i : Int)) ?_ ?_ 0 (Nat.zero_le _) ([], p, h) ⟨rfl, by simp only; omega, by simp only; omega⟩
  · exact h0
  · rintro i ⟨s, p1, h1⟩ hi ⟨s1, s2, s3⟩ next
    simp only at s1 s2 s3
    refine Tot.step (fun _ => rfl) ?_
    simp only [spec_DrawOrderOfPlaces.l0, if_pos (show ((m - i : Nat) : Int) > 0 by omega)]
    refine Tot.obind (among_ok hb p1 h1 _ (by simp) (by omega) (by omega)) ?_
    rintro ⟨v, p2, h2⟩ ⟨_, v2, v3⟩
    simp only at v2 v3
    refine Tot.obind (pick_ok hb p2 h2 _ (by omega) (by omega)) ?_
    rintro ⟨v', p3, h3⟩ ⟨_, _, u2, u3⟩
    simp only at u2 u3
    have ew : wrap64 (((m - i : Nat) : Int) - 1) = ((m - (i + 1) : Nat) : Int) := by rw [wrap64_in _ (by omega) (by omega)]; omega
    simp only [if_pos (show s.length < 17592186044416 by omega), ew]
    exact next (s ++ [v'], p3, h3) ⟨by simp [s1], by simp only; omega, by simp only; omega⟩
  · rintro ⟨s, p1, h1⟩ ⟨s1, s2, s3⟩
    simp only at s1 s2 s3
    refine Tot.step (fun _ => rfl) ?_
    simp only [spec_DrawOrderOfPlaces.l0, Nat.sub_self, if_neg (show ¬ ((0 : Nat) : Int) > 0 by omega)]
    refine Tot.obind (pick_ok hb p1 h1 16 (by omega) (by omega)) ?_
    rintro ⟨c, p2, h2⟩ ⟨_, _, v2, v3⟩
    simp only at v2 v3
    refine Tot.ite (fun _ => ?_) (fun _ => Tot.ite (fun _ => ?_) (fun _ => ?_))
    · refine Tot.obind (among_ok hb p2 h2 _ (by simp) (by omega) (by omega)) ?_
      rintro ⟨v, p3, h3⟩ ⟨_, u2, u3⟩
      simp only at u2 u3
      simp only [if_pos (show s.length < 17592186044416 by omega)]
      refine Tot.obind (threshold_ok hb p3 h3 (by omega) (by omega)) ?_
      rintro ⟨v', p4, h4⟩ _
      exact Tot.now (by simp only [List.length_append, List.length_singleton]; omega)
    · have h0 := Tot.up (Q := fun r : Int × List Int => r.2.length ≤ 12) (fun i (s : List Int × Int × Int) k => spec_DrawOrderOfPlaces.l1 k s.1 l s.2.1 s.2.2) 11 (fun i s => s.1.length = i ∧ 0 ≤ s.2.1 ∧ s.2.1 ≤ 1000 + 10 * (i : Int)) ?_ ?_ s.length (by omega) (s, p2, h2) ⟨rfl, by simp only; omega, by simp only; omega⟩
      · exact h0
      · rintro i ⟨s, p1, h1⟩ hi ⟨s1, s2, s3⟩ next
        simp only at s1 s2 s3
        refine Tot.step (fun _ => rfl) ?_
        simp only [spec_DrawOrderOfPlaces.l1]
        refine Tot.obind (pick_ok hb p1 h1 2 (by omega) (by omega)) ?_
        rintro ⟨v, p2, h2⟩ ⟨v0, v1, v2, v3⟩
        simp only at v0 v1 v2 v3
        refine Tot.ite (fun _ => ?_) (fun _ => ?_)
        · simp only [if_pos (show s.length < 17592186044416 by omega)]
          exact next (s ++ [3], p2, h2) ⟨by simp [s1], by simp only; omega, by simp only; omega⟩
        · refine Tot.obind (threshold_ok hb p2 h2 (by omega) (by omega)) ?_
          rintro ⟨v', p4, h4⟩ _
          exact Tot.now (by simp only; omega)
      · rintro ⟨s, p1, h1⟩ ⟨s1, s2, s3⟩
        simp only at s1 s2 s3
        refine Tot.step (fun _ => rfl) ?_
        simp only [spec_DrawOrderOfPlaces.l1]
        refine Tot.obind (pick_ok hb p1 h1 2 (by omega) (by omega)) ?_
        rintro ⟨v, p2, h2⟩ ⟨v0, v1, v2, v3⟩
        simp only at v0 v1 v2 v3
        simp only [wrap64_in (10 + v) (by omega) (by omega), if_neg (show ¬ (s.length : Int) < 10 + v by omega)]
        refine Tot.obind (threshold_ok hb p2 h2 (by omega) (by omega)) ?_
        rintro ⟨v', p4, h4⟩ _
        exact Tot.now (by simp only; omega)
    · refine Tot.obind (threshold_ok hb p2 h2 (by omega) (by omega)) ?_
      rintro ⟨v', p4, h4⟩ _
      exact Tot.now (by simp only; omega)
theorem vSame_ev (l l' : List Int) (hl : l.length ≤ 140737488355328) : Ev (fun k => laws_vSame.f k l l') (decide (l = l')) := by
  unfold laws_vSame.f
  by_cases h : (l.length : Int) = (l'.length : Int)
  · simp only [if_pos h]
    refine Ev.to (Ev.all (fun i k => laws_vSame.l0 k l l' (l.length : Int) (i : Int)) l.length (fun i => decide (l.getD i 0 = l'.getD i 0)) ?_ ?_ ?_) ?_
    · intro i r hi hp next
      refine Ev.step (fun _ => rfl) ?_
      simp only [laws_vSame.l0, if_pos (show (i : Int) < (l.length : Int) by omega), if_pos (show (0 : Int) ≤ (i : Int) by omega), if_pos (show (i : Int) < (l'.length : Int) by omega), rd_nat, if_pos (of_decide_eq_true hp), next64 i l.length hi (by omega)]
      exact next
    · intro i hi hp
      refine Ev.step (fun _ => rfl) ?_
      simp only [laws_vSame.l0, if_pos (show (i : Int) < (l.length : Int) by omega), if_pos (show (0 : Int) ≤ (i : Int) by omega), if_pos (show (i : Int) < (l'.length : Int) by omega), rd_nat, if_neg (of_decide_eq_false hp)]
      exact Ev.now _
    · refine Ev.step (fun _ => rfl) ?_
      simp only [laws_vSame.l0, if_neg (show ¬ (l.length : Int) < (l.length : Int) by omega)]
      exact Ev.now _
    · rw [Bool.eq_iff_iff, allB_iff, decide_eq_true_iff]
      constructor
      · intro H
        exact list_ext_getD (by omega) fun i hi => of_decide_eq_true (H i hi)
      · rintro rfl i _
        simp
  · simp only [if_neg h]
    refine Ev.to (Ev.now _) ?_
    symm
    rw [decide_eq_false_iff_not]
    rintro rfl
    exact h rfl
theorem vOrder_same (n : Int) (l : List Int) (hl : l.length ≤ 140737488355328) : Ev (fun k => laws_vOrder.f k n l n l) true := by
  unfold laws_vOrder.f
  simp only [if_true]
  exact Ev.bind (vSame_ev l l hl) (Ev.to (Ev.now _) (by simp))
theorem equal_same (l : List Int) (hl : l.length ≤ 140737488355328) : Ev (fun k => slices_Equal_int_int.f k l l) true := by
  unfold slices_Equal_int_int.f
  simp only [if_true]
  refine Ev.up (fun i k => slices_Equal_int_int.l0 k l l (l.length : Int) (i : Int)) l.length ?_ ?_
  · intro i hi next
    refine Ev.step (fun _ => rfl) ?_
    simp only [slices_Equal_int_int.l0, if_pos (show (i : Int) < (l.length : Int) by omega), if_pos (show (0 : Int) ≤ (i : Int) by omega), if_true, next64 i l.length hi (by omega)]
    exact next
  · refine Ev.step (fun _ => rfl) ?_
    simp only [slices_Equal_int_int.l0, if_neg (show ¬ (l.length : Int) < (l.length : Int) by omega)]
    exact Ev.now _
theorem IsPlaces_pl {t : Int} {z : List Int} (h : Places t z) : Ev (fun k => impl_IsPlaces.f k (z.length : Int) (plR t z) t z) (true, true) := by
  have o := plR_ord h
  have hlen := h.len
  unfold impl_IsPlaces.f
  refine Ev.bind (a := true) ?_ ?_
  · unfold impl_isThreshold.f
    refine Ev.bind (Ev.to (IsOrder_ev _ _ (by rw [o.len]; omega)) (isOrd_iff.2 ⟨_, rfl, o⟩)) ?_
    simp only [if_true, within_eq, Option.bind_some, decide_eq_true (show 1 ≤ t ∧ t ≤ 10 from ⟨h.t1, h.t2⟩)]
    exact Ev.now _
  simp only [if_true]
  refine Ev.bind (a := true) ?_ (Ev.now _)
  unfold impl_Order_isPlaces.f
  have hk := plOk_iff.2 h
  unfold plOk at hk
  simp only [Bool.and_eq_true] at hk
  refine Ev.bind (Ev.to (allWithin_ev z 0 1000 (by omega)) hk.2.2) ?_
  simp only [if_true]
  refine Ev.bind (placed_ev (by omega) h.mem) ?_
  refine Ev.bind (a := true) ?_ (Ev.now _)
  unfold impl_Order_same.f
  simp only [if_true]
  exact Ev.bind (equal_same _ (by rw [o.len]; omega)) (Ev.now _)
theorem vNumber_tot {l : List Int} (hb : By l) (hl : l.length ≤ 140737488355328) : Tot (fun k => laws_vNumber.f k l) (fun r => 0 ≤ r) := by
  unfold laws_vNumber.f
  refine Tot.up (fun i (s : Int) k => laws_vNumber.l0 k s l (l.length : Int) (i : Int)) l.length (fun _ s => 0 ≤ s ∧ s < 1000003) ?_ ?_ 0 (Nat.zero_le _) 0 ⟨by omega, by omega⟩
  · intro i s hi hs next
    have hr := hb.rd i
    refine Tot.step (fun _ => rfl) ?_
    simp only [laws_vNumber.l0, if_pos (show (i : Int) < (l.length : Int) by omega), if_pos (show (0 : Int) ≤ (i : Int) by omega), wrap64_in (rd l (i : Int)) (by omega) (by omega), wrap64_in (31 * s) (by omega) (by omega), wrap64_in (31 * s + rd l (i : Int)) (by omega) (by omega), next64 i l.length hi hl, Int.tmod_eq_emod_of_nonneg (show 0 ≤ 31 * s + rd l (i : Int) by omega)]
    exact next _ ⟨by omega, by omega⟩
  · intro s hs
    refine Tot.step (fun _ => rfl) ?_
    simp only [laws_vNumber.l0, if_neg (show ¬ (l.length : Int) < (l.length : Int) by omega)]
    exact Tot.now hs.1
def moved (z : List Int) (d : Int) (i : Nat) : List Int := (z.take i).map fun x => x + d
theorem moved_next (z : List Int) (d : Int) (i : Nat) (h : i < z.length) : moved z d (i + 1) = moved z d i ++ [z.getD i 0 + d] := by
  unfold moved
  rw [show z.take (i + 1) = z.take i ++ [z[i]] by rw [List.take_add_one]; simp [h], List.map_append]
  simp [h]
theorem moved_length (z : List Int) (d : Int) (i : Nat) (h : i ≤ z.length) : (moved z d i).length = i := by simp [moved, h]
theorem moved_getD (z : List Int) (d : Int) (i : Nat) (h : i < z.length) : (moved z d z.length).getD i 0 = z.getD i 0 + d := by simp [moved, h]
theorem FnOrdersOfPlaces : P.laws_FnOrdersOfPlaces.Pure := by
  intro l0 l1 _ hl0 hb _ hl1 hb1
  have hB := by_wf hb
  have hB1 := by_wf hb1
  obtain ⟨⟨t, z⟩, hd, hlen⟩ := DrawOrderOfPlaces_tot hB
  simp only at hlen
  refine Ev.rounds (g := fun k => laws_FnOrdersOfPlaces.f k l0 l1) ?_
  unfold laws_FnOrdersOfPlaces.f
  obtain ⟨b, hbig⟩ : ∃ b, laws_big.f l0 l1 = some b := by
    unfold laws_big.f
    split
    · exact ⟨_, rfl⟩
    · exact ⟨_, rfl⟩
  rw [hbig]
  simp only [Option.bind_some]
  cases b with
  | true => simp only [if_true]; exact Ev.now _
  | false =>
  simp only [Bool.false_eq_true, if_false]
  refine Ev.bind hd ?_
  refine Ev.bind (OrderOfPlaces_ev t z (by omega)) ?_
  refine Ev.bind (sOrderOfPlaces_ev t z (by omega)) ?_
  simp only [bne_self_eq_false, Bool.false_eq_true, if_false]
  cases hk : plOk t z with
  | false =>
    simp only [Bool.false_eq_true, if_false]
    refine Ev.bind (vOrder_same _ _ (by simp)) ?_
    simp only [Bool.not_true]
    refine Ev.step (fun _ => rfl) ?_
    simp only [laws_FnOrdersOfPlaces.j0, Bool.false_eq_true, if_false]
    exact Ev.now _
  | true =>
  have hp := plOk_iff.1 hk
  have o := plR_ord hp
  have hlen := hp.len
  simp only [if_true]
  refine Ev.bind (vOrder_same _ _ (by rw [o.len]; omega)) ?_
  simp only [Bool.not_true]
  refine Ev.step (fun _ => rfl) ?_
  simp only [laws_FnOrdersOfPlaces.j0, Bool.false_eq_true, if_false, if_true]
  refine Ev.bind (IsSemi_pl hp) ?_
  refine Ev.bind (IsPlaces_pl hp) ?_
  simp only [if_true, Bool.not_true]
  refine Ev.step (fun _ => rfl) ?_
  simp only [laws_FnOrdersOfPlaces.j1, Bool.false_eq_true, if_false]
  obtain ⟨v, hv, hv0⟩ := vNumber_tot hB1 (by omega)
  refine Ev.bind hv ?_
  rw [Int.tmod_eq_emod_of_nonneg hv0]
  have hd0 : 0 ≤ v % 50 ∧ v % 50 < 50 := ⟨by omega, by omega⟩
  generalize v % 50 = d at hd0
  -- either a place comes too far, or all are moved
  have last : (∀ i, i < z.length → z.getD i 0 + d ≤ 1000) → Ev (fun k => laws_FnOrdersOfPlaces.l0 k t d (moved z d z.length) z (z.length : Int) (z.length : Int) (z.length : Int) (plR t z)) true := by
    intro hall
    refine Ev.step (fun _ => rfl) ?_
    simp only [laws_FnOrdersOfPlaces.l0, if_neg (show ¬ (z.length : Int) < (z.length : Int) by omega)]
    have hml := moved_length z d z.length (Nat.le_refl _)
    have hp2 : Places t (moved z d z.length) := by
      refine ⟨hp.t1, hp.t2, by omega, fun i => ?_⟩
      by_cases hi : i < z.length
      · rw [moved_getD z d i hi]
        have := hall i hi
        have := hp.mem i
        omega
      · simp [hml, Nat.not_lt.1 hi]
    have e : plR t (moved z d z.length) = plR t z := by
      unfold plR
      rw [hml]
      apply relL_congr
      intro i j hi hj
      unfold plP
      rw [moved_getD z d i hi, moved_getD z d j hj, show z.getD j 0 + d - (z.getD i 0 + d) = z.getD j 0 - z.getD i 0 by omega]
    refine Ev.bind (OrderOfPlaces_ev t _ (by omega)) ?_
    rw [plOk_iff.2 hp2, e, hml]
    simp only [if_true]
    exact Ev.bind (vOrder_same _ _ (by rw [o.len]; omega)) (Ev.now _)
  have stepOk : ∀ i, i < z.length → z.getD i 0 + d ≤ 1000 → Ev (fun k => laws_FnOrdersOfPlaces.l0 k t d (moved z d (i + 1)) z (z.length : Int) ((i + 1 : Nat) : Int) (z.length : Int) (plR t z)) true → Ev (fun k => laws_FnOrdersOfPlaces.l0 k t d (moved z d i) z (z.length : Int) (i : Int) (z.length : Int) (plR t z)) true := by
    intro i hi hle next
    have := hp.mem i
    refine Ev.step (fun _ => rfl) ?_
    rw [moved_next z d i hi] at next
    simp only [laws_FnOrdersOfPlaces.l0, if_pos (show (i : Int) < (z.length : Int) by omega), if_pos (show (0 : Int) ≤ (i : Int) by omega), rd_nat, wrap64_in (z.getD i 0 + d) (by omega) (by omega), if_neg (show ¬ z.getD i 0 + d > 1000 by omega), moved_length z d i (by omega), if_pos (show i < 17592186044416 by omega), next64 i z.length hi (by omega)]
    exact next
  have h0 : Ev (fun k => laws_FnOrdersOfPlaces.l0 k t d (moved z d 0) z (z.length : Int) ((0 : Nat) : Int) (z.length : Int) (plR t z)) true := by
    by_cases hall : ∀ i, i < z.length → z.getD i 0 + d ≤ 1000
    · exact Ev.up (fun i k => laws_FnOrdersOfPlaces.l0 k t d (moved z d i) z (z.length : Int) (i : Int) (z.length : Int) (plR t z)) z.length (fun i hi => stepOk i hi (hall i hi)) (last hall)
    · obtain ⟨i, hi⟩ := Classical.not_forall.1 hall
      obtain ⟨hi, hgt⟩ := Classical.not_imp.1 hi
      obtain ⟨j, hj, h1, h2⟩ := least_false (n := z.length) (p := fun i => decide (z.getD i 0 + d ≤ 1000)) ⟨i, hi, decide_eq_false hgt⟩
      refine Ev.up (fun i k => laws_FnOrdersOfPlaces.l0 k t d (moved z d i) z (z.length : Int) (i : Int) (z.length : Int) (plR t z)) j (fun i hi => stepOk i (by omega) (of_decide_eq_true (h2 i hi))) ?_
      have := hp.mem j
      have h1 := of_decide_eq_false h1
      refine Ev.step (fun _ => rfl) ?_
      simp only [laws_FnOrdersOfPlaces.l0, if_pos (show (j : Int) < (z.length : Int) by omega), if_pos (show (0 : Int) ≤ (j : Int) by omega), rd_nat, wrap64_in (z.getD j 0 + d) (by omega) (by omega), if_pos (show z.getD j 0 + d > 1000 by omega)]
      exact Ev.now _
  exact h0
end Go.Proofs.YtjdkcafpgebjfaaDoor.Pure
namespace Go.Proofs.YtjdkcafpgebjfaaDoorW.PrintWords
open Go.ChangeShapes Go.WideShapes
theorem sized_ints {H : Type} {enc : TypeId × Value → H} {P : Program} {W : World} {base : Nat} {spare : Nat → Bool} {held : Bool} {t e : TypeId} {k : IntKind} {a : Option Addr} {len cap : Nat} {d : DataW H} {ps : List MemPlace} {ts : List TypeId} {ds : List (DataW H)} {j : Nat}
    (hsz : (DataW.weightsEach P ts ds).all (· ≤ reachBytes) = true) (ht : ts[j]? = some t) (hd : ds[j]? = some d) (hu : P.underlying t = some (.slice e)) (he : P.underlying e = some (.int k)) (hc : P.cellsOf e = 1) {B : Nat} (hB : P.bytesOf e = B)
    (h : DataW.Trod enc P W base spare held t (.slice a len cap) d ps) : len * B ≤ 140737488351232 := by
  obtain ⟨fuel, hf⟩ := h
  rcases open_ints hu he hc hf with ⟨hcs, _⟩ | ⟨x, l, c, zs, hcs, _, hl, _, hz, hx, _, _⟩
  · simp [Value.cells] at hcs
    obtain ⟨rfl, rfl, rfl⟩ := hcs
    simp
  · simp [Value.cells] at hcs
    obtain ⟨rfl, rfl, rfl⟩ := hcs
    obtain ⟨hx, _⟩ := Prod.mk.inj hx
    subst hx
    have z := sized_slice hsz ht hd hu
    rw [hB] at z
    have hl2 : len ≤ zs.length := by
      rw [hz]
      split
      · exact hl
      · exact Nat.le_refl _
    have h1 : (lits (H := H) k (zs.take len)).length + (lits (H := H) k (zs.drop len)).length = zs.length := by
      simp [lits]
      omega
    rw [h1] at z
    exact Nat.le_trans (Nat.mul_le_mul_right _ hl2) z
end Go.Proofs.YtjdkcafpgebjfaaDoorW.PrintWords
namespace Go.Proofs.YtjdkcafpgebjfaaDoor.fnOrdersOfPlaces
open Go.ChangeShapes Go.WideShapes Go.ChangeAt Go.RowKit
open Go.ChangeMaps (open_string shut_string)
open Go.Proofs.YtjdkcafpgebjfaaDoorW
set_option linter.unusedVariables false
theorem own : ownKnob Tryd.prog.godebug = none := by kernel_rfl
theorem laidOut : laidOutB Tryd.prog = true := by kernel_rfl
def IsRow (k : IntKind) (w : World) (a : Option Addr) (len cap : Nat) (zs : List Int) : Prop :=
  (a = none ∧ len = 0 ∧ cap = 0 ∧ zs = []) ∨
  ∃ x, a = some x ∧ len ≤ cap ∧ cap ≤ maxLen ∧ zs.length = cap ∧ (∀ i, i < zs.length → w.cell? (x.add i) = some (.int k (zs.getD i 0))) ∧ ∀ n ∈ zs, (Lit.int k n).wf = true
theorem gT : Tryd.prog.globalNamed "math/bits.deBruijn64tab" = some 1 := by kernel_rfl
theorem tT : (Tryd.prog.globals[1]?).map (·.type) = some 124 := by kernel_rfl
theorem cT : Tryd.prog.cellsOf 124 = 64 := by kernel_rfl
theorem cE : Tryd.prog.cellsOf 5 = 1 := by kernel_rfl
def tab64 : List Int := Lib.deBruijn64tab.map fun (z : Nat) => (z : Int)
theorem tab64_at : ∀ j, j < 64 → tab64.getD j 0 = ((Lib.deBruijn64tab.getD j 0 : Nat) : Int) := by decide +kernel
theorem table {W : World} (h : laidMetH Tryd.prog Rows.fnOrdersOfPlacesRow.laid W) : P.TabOK W := by
  rw [MakeChecks.laidMetH_plain _ _ _ (by kernel_rfl)] at h
  have h1 : laidMet Tryd.prog [("math/bits.deBruijn32tab", Rows.laid_math_bits_deBruijn32tab), ("math/bits.deBruijn64tab", Lib.tabData .u8 tab64)] W := h
  have h0 := laidMet.tail (h1)
  have ht := Lib.tabIs_of_head gT tT Tryd.underlying124 Tryd.underlying5 cE cT h0
  intro j hj
  rw [ht.cell gT j (by exact hj), tab64_at j hj]
theorem door_met (os : Os) (args : Array Value) : laidMetH Tryd.prog Rows.fnOrdersOfPlacesRow.laid ((World.doorLaid Tryd.prog 400 os).forCall (fun _ _ => 0) ⟨#[], args, []⟩).memory :=
  laidMetH_of_parts3 (fuel := 8) (laidMet_of_run' 8 (by kernel_rfl) (by kernel_rfl)) (by kernel_rfl) (by kernel_rfl)
set_option maxRecDepth 100000 in
theorem lifted (os : Os) (started : os.Started) (H : Type) (enc : TypeId × Value → H) :
    ReturnsInHanded {} Tryd.checked os 4 .any (fun w args => (Rows.fnOrdersOfPlacesSpec.pre enc Tryd.prog Tryd.f4 [] false w args ∧ laidMetH Tryd.prog Rows.fnOrdersOfPlacesRow.laid w) ∧ sizedMet enc Tryd.prog Tryd.f4 (OpenSpec.ofChange Rows.fnOrdersOfPlacesSpec) false w args)
      (Rows.fnOrdersOfPlacesSpec.post enc Tryd.prog Tryd.f4 false true false false) := by
  refine returnsInHanded_of_change_and (C := Tryd.checked) (X := fun w _ => laidMetH Tryd.prog Rows.fnOrdersOfPlacesRow.laid w) (fun _ _ _ hh h => h.of_heap hh) own started (by kernel_rfl) Tryd.func4
    (ChangeSpec.witness_shaped (enc := enc) (C := Tryd.checked) (os := os) (X := fun w _ => laidMetH Tryd.prog Rows.fnOrdersOfPlacesRow.laid w) false (World.doorLaid Tryd.prog 400 os) #[.slice none 0 0, .slice none 0 0] 8 rfl (World.shaped_of_RefB (by kernel_rfl) (by kernel_rfl)) (by kernel_rfl) (by kernel_rfl) (by kernel_rfl) (door_met os _)) ?_
  intro W base args ds gs before hval0 hW hcnd hsz0 hL _
  have hsz : (DataW.weightsEach Tryd.prog (Tryd.f4.params.toList ++ Rows.fnOrdersOfPlacesSpec.plain.varTypes Tryd.prog) (ds ++ gs)).all (· ≤ reachBytes) = true := hsz0
  have hval : ∀ (j : Nat) t v, Tryd.f4.params[j]? = some t → args[j]? = some v → Value.okWide Tryd.prog W .any base t v := hval0
  have hW' := hW
  obtain ⟨p, q, hA0, hV, rfl, hfz, hnd⟩ := hW
  have hA : DataW.TrodAll enc Tryd.prog W 0 (fun _ => true) true Tryd.f4.params.toList args.toList ds p := hA0
  rw [Tryd.params4] at hA hval hsz
  obtain ⟨v0, vs0, d0, ds0, p0, q0, hargs, rfl, rfl, h0, r0⟩ := trodAll_cons hA
  obtain ⟨v1, vs1, d1, ds1, p1, q1, rfl, rfl, rfl, h1, r1⟩ := trodAll_cons r0
  obtain ⟨rfl, rfl, rfl⟩ := trodAll_nil r1
  obtain rfl : args = #[v0, v1] := by cases args; simp_all
  obtain ⟨rfl, rfl⟩ := trodVars_none hV
  obtain ⟨a0, len0, cap0, rfl⟩ := okWide_slice Tryd.underlying33 (hval 0 33 v0 rfl rfl)
  have k0 := h0
  have lt0 : ∀ x ∈ p0, x.block < W.heap.size := by obtain ⟨m, hm⟩ := k0; exact DataW.trod_lt m _ _ _ hm
  obtain ⟨z0, w0⟩ : ∃ zs, IsRow .u8 W a0 len0 cap0 zs := by
    obtain ⟨fuel, hf⟩ := h0
    rcases open_ints Tryd.underlying33 Tryd.underlying5 (by kernel_rfl) hf with ⟨hcs, _⟩ | ⟨x, l, c, zs, hcs, _, hl, hm, hz, _, hcell, hwz⟩
    · simp [Value.cells] at hcs
      obtain ⟨rfl, rfl, rfl⟩ := hcs
      exact ⟨[], .inl ⟨rfl, rfl, rfl, rfl⟩⟩
    · simp [Value.cells] at hcs
      obtain ⟨rfl, rfl, rfl⟩ := hcs
      exact ⟨zs, .inr ⟨_, rfl, hl, hm, by simpa using hz, hcell, hwz⟩⟩
  have y0 : len0 * 1 ≤ 140737488351232 := PrintWords.sized_ints hsz (j := 0) (t := 33) rfl rfl Tryd.underlying33 Tryd.underlying5 (by kernel_rfl) (by kernel_rfl) h0
  obtain ⟨a1, len1, cap1, rfl⟩ := okWide_slice Tryd.underlying33 (hval 1 33 v1 rfl rfl)
  have k1 := h1
  have lt1 : ∀ x ∈ p1, x.block < W.heap.size := by obtain ⟨m, hm⟩ := k1; exact DataW.trod_lt m _ _ _ hm
  obtain ⟨z1, w1⟩ : ∃ zs, IsRow .u8 W a1 len1 cap1 zs := by
    obtain ⟨fuel, hf⟩ := h1
    rcases open_ints Tryd.underlying33 Tryd.underlying5 (by kernel_rfl) hf with ⟨hcs, _⟩ | ⟨x, l, c, zs, hcs, _, hl, hm, hz, _, hcell, hwz⟩
    · simp [Value.cells] at hcs
      obtain ⟨rfl, rfl, rfl⟩ := hcs
      exact ⟨[], .inl ⟨rfl, rfl, rfl, rfl⟩⟩
    · simp [Value.cells] at hcs
      obtain ⟨rfl, rfl, rfl⟩ := hcs
      exact ⟨zs, .inr ⟨_, rfl, hl, hm, by simpa using hz, hcell, hwz⟩⟩
  have y1 : len1 * 1 ≤ 140737488351232 := PrintWords.sized_ints hsz (j := 1) (t := 33) rfl rfl Tryd.underlying33 Tryd.underlying5 (by kernel_rfl) (by kernel_rfl) h1
  clear hA0 hval0 hsz0 hsz
  refine (P.laws_FnOrdersOfPlaces.walk Pure.FnOrdersOfPlaces a0 len0 cap0 z0 a1 len1 cap1 z1 W w0 y0 w1 y1 (table hL)).mono fun e W' ⟨he, bel⟩ => ?_
  subst he
  exact ⟨_, rfl, _, _, _, [], _, [], hW', trodAll_mk1 (shut_bool Tryd.underlying4 _), (trodAll_cons_mk (Below.trod laidOut (by kernel_rfl) (of_decide_eq_true (by kernel_rfl)) k0 bel lt0) (trodAll_cons_mk (Below.trod laidOut (by kernel_rfl) (of_decide_eq_true (by kernel_rfl)) k1 bel lt1) trodAll_mk0)), rfl, bel.frame _, fun h => by cases h⟩
theorem over : Rows.fnOrdersOfPlacesRow.holds Tryd.pinned (OpenSpec.ofChange Rows.fnOrdersOfPlacesSpec) :=
  OpenClaim.holds_of_wide 4 Tryd.f4 rfl rfl rfl rfl rfl rfl rfl ⟨rfl, rfl, rfl, rfl, rfl⟩ rfl rfl rfl rfl rfl (by kernel_rfl) Tryd.func4 (by kernel_rfl)
    (of_decide_eq_true (by kernel_rfl)) (by unfold Func.isWrapper; first | (rw [if_pos (by decide +kernel)]; kernel_rfl) | (rw [if_neg (by decide +kernel)]; exact ⟨rfl, rfl⟩))
    (fun os started H enc _ => lifted os started H enc)
theorem proved : Rows.FnOrdersOfPlacesCardSaid :=
  Claim7.holds_tied_plain_at .later [] [.data, .data] true (true, "5d58891a245336e29b7e5b518917121b9d138b4959fb48b1af33e9c76743e3aa") false
    over (fun _ h => by cases h) (by kernel_rfl) (fun _ h => by cases h) fnOrdersOfPlaces_row_tie rfl ⟨rfl, rfl⟩ (by kernel_rfl) rfl
    (fun f fn hf hfn => by
      obtain rfl : f = 4 := Option.some.inj ((show Tryd.prog.funcNamed "loop.example/g01106/laws.FnOrdersOfPlaces" = some 4 by kernel_rfl).symm.trans hf) |>.symm
      obtain rfl : fn = Tryd.f4 := (Option.some.inj (Tryd.func4.symm.trans hfn)).symm
      exact ⟨by kernel_rfl, fun j t ht => by
        rw [Tryd.params4] at ht
        have hm : t ∈ [33] := by have hq := Array.mem_of_getElem? ht; simp at hq; simp [hq]
        have hall : ([33].all fun u => !Tryd.prog.wantsStandIn u) = true := by kernel_rfl
        exact (show Tryd.prog.wantsStandIn t = false by simpa using List.all_eq_true.1 hall t hm)⟩)
    (by kernel_rfl)
end Go.Proofs.YtjdkcafpgebjfaaDoor.fnOrdersOfPlaces
namespace Go.Proofs.YtjdkcafpgebjfaaDoor
theorem fnOrdersOfPlaces_holds : Rows.FnOrdersOfPlacesCardSaid := fnOrdersOfPlaces.proved
end Go.Proofs.YtjdkcafpgebjfaaDoor
