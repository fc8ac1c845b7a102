/- A part of the proof that the law FnEndsAreLeast holds at every input. Written by wip/pack.py: the kit's printed words that are used, the functions' walks as wip/gen.py prints them, and hand proofs. -/
import Derived.Test.YtimjblnglhmakaaDoorKFnEndsAreLeast0
import Derived.RangeFuncBox
import Derived.RangeFuncLeaves
import Derived.Shelf.Abstract
import Derived.Shelf.AbstractIn
import Derived.WalkKit
import Derived.OwnWalkIn
import Derived.TacticsInMore
import Derived.LoopNIn
import Derived.LoopIn
import Derived.Maps.AppendAt
import Derived.Lib.SlKeysI
import Derived.Shelf.SortM.Plain
import Derived.Shelf.SortM.SortNone
import Derived.Shelf.SlicesG.CompactI
import Derived.Shelf.SlicesG.SearchI
import Derived.Test.YtimjblnglhmakaaDoorProg
namespace Go.Proofs.YtimjblnglhmakaaDoor.P
open Go.RowKit Go.Proofs.YtimjblnglhmakaaDoorW.PrintWords Go.Proofs.YtimjblnglhmakaaDoorW.PrintLast Go.Proofs.YtimjblnglhmakaaDoorW.PrintMore
open Bool renaming true → T, false → F
open List renaming setIfInBounds_toArray → L_, set_cons_zero → M_, set_cons_succ → N_, map_toArray → P_, map_cons → Q_, map_nil → R_, length_drop → S_, length_take → U_
open Aside0 renaming mk → A_
attribute [local go_sem] max2_int min2_int max_two min_two max_three min_three max_four min_four
set_option linter.unusedVariables false
set_option linter.unusedSimpArgs false
attribute [local go_sem] fldOrder_0 fldOrder_1
mutual
def spec_ivOrder.l0 : Nat → List (S62) → List (S62) → Int → Int → Int → List Int → Option (Int × List Int)
 | 0,_,_,_,_,_,_=>none
 | k + 1,x0,x12,x13,x14,x1199000,x1199001=>if x14 < x13 then (if 0 ≤ x14 then (if x14 < (x12.length : Int) then (spec_ivOrder.l1 k x0 0 x12 x13 x14 x0 (x0.length : Int) 0 x1199000 x1199001 ((rd_T62 x12 x14).f0) ((rd_T62 x12 x14).f1)) else (none)) else (none)) else (some (x1199000,x1199001))
def spec_ivOrder.l1 : Nat → List (S62) → Int → List (S62) → Int → Int → List (S62) → Int → Int → Int → List Int → Int → Int → Option (Int × List Int)
 | 0,_,_,_,_,_,_,_,_,_,_,_,_=>none
 | k + 1,x0,x6,x12,x13,x14,x18,x19,x20,x1199000,x1199001,x1201000,x1201001=>if x20 < x19 then (if 0 ≤ x20 then (if x20 < (x18.length : Int) then (if x1201001 < ((rd_T62 x18 x20).f0) then (spec_ivOrder.l1 k x0 (Go.bits .or .i64 x6 (shl .i64 1 x20)) x12 x13 x14 x18 x19 (wrap64 (x20 + 1)) x1199000 x1199001 x1201000 x1201001) else (spec_ivOrder.l1 k x0 x6 x12 x13 x14 x18 x19 (wrap64 (x20 + 1)) x1199000 x1199001 x1201000 x1201001)) else (none)) else (none)) else (if x1199001.length < 17592186044416 then (spec_ivOrder.l0 k x0 x12 x13 (wrap64 (x14 + 1)) x1199000 (x1199001 ++ [x6])) else (none))
end
def spec_ivOrder.f (k : Nat) (l0 : List (S62)) : Option (Int × List Int) := spec_ivOrder.l0 k l0 l0 (l0.length : Int) 0 (l0.length : Int) ([] : List Int)
set_option maxHeartbeats 8000000 in
set_option maxRecDepth 100000 in
theorem spec_ivOrder.calls (k : Nat) (A0 : Option Addr) (c0 : Nat) (l0 : List (S62)) (r1 : Int) (r2 : List Int) (w : World) (hr0 : Kd.C k62 w A0 l0.length l0) (hc0 : l0.length ≤ c0) (h : spec_ivOrder.f k l0 = some (r1,r2)) :
 Calls Tryd.prog 133 #[.slice A0 l0.length c0] w fun e w'=>∃ v1_ : Value,e = .returned (.agg #[.int .i64 r1,v1_]) ∧ Kd.R (Kd.int .i64) 3 w' w.heap.size (fun _=>True) v1_ r2 ∧ Below w.heap.size w w':=by
 have hu28:=Tryd.underlying28;have hu62:=Tryd.underlying62;have HR0:=A_ hr0;have HC0:=A_ hc0;clear hr0 hc0;have HB:=A_ (Below.refl w.heap.size w);have H : (spec_ivOrder.l0 k l0 l0 (l0.length : Int) 0 (l0.length : Int) ([] : List Int)) = some (r1,r2):=h;clear h;have H':=A_ H;clear H;go_enter Tryd.func133,Tryd.ntmps133
 go_wp2_with (first|((with_reducible refine gate_dst (N:=2) rfl ?_);refine box_event ?hg (N:=2) ?hd (cs:=#[.int .i64 0,.slice none 0 0]) (t:=28) ?hr ?_;(case hd=>rfl);(case hg=>rfl);(case hr=>first|(go_simp;done)|(go_simp;rfl));intro gb1197 hg w2 hbox hb;have BK1197:=A_ (hbox);have GW1197:=A_ ((by rw [hg];exact (below_size bb_) : w.heap.size ≤ gb1197));have GE1197:=A_ ((by rw [hg];exact (below_size bb_) : w.heap.size ≤ gb1197));replace HB:=A_ (below_step bb_ hb);clear hb hbox hg)|((with_reducible refine gate_dst (N:=3) rfl ?_);refine box_event ?hg (N:=3) ?hd (cs:=#[.int .i64 0,.slice none 0 0]) (t:=28) ?hr ?_;(case hd=>rfl);(case hg=>rfl);(case hr=>first|(go_simp;done)|(go_simp;rfl));intro gb1198 hg w3 hbox hb;have BK1198:=A_ (hbox);have GW1198:=A_ ((by rw [hg];exact (below_size bb_) : w.heap.size ≤ gb1198));have GE1198:=A_ ((by rw [hg];exact (below_size bb_) : w.heap.size ≤ gb1198));replace HB:=A_ (below_step bb_ hb);have NB1197_1198:=A_ ((by rw [hg];exact Nat.ne_of_lt (blk_lt (bl_ BK1197)) : gb1197 ≠ gb1198));have NB1198_1197:=A_ ((by rw [hg];exact Nat.ne_of_gt (blk_lt (bl_ BK1197)) : gb1198 ≠ gb1197));replace BK1197:=bz BK1197 hb;clear hb hbox hg;have hnb4:=NB1198_1197.out;have hnc4:=NB1197_1198.out;have hcz5_0 : w3.cell? ⟨gb1198,0,none⟩ = some (.int .i64 0):=blk_cell BK1198.out 0;have hcz5_1 : w3.cell? ⟨gb1198,1,none⟩ = some (.slice none 0 0):=blk_cell BK1198.out 1;have hfz5_0:=blk_frozen BK1198.out 0;have hfz5_1:=blk_frozen BK1198.out 1))
 go_loopg [14] k (fun kq v14 w'=>∃ (x14_1 : Int) (x1199001_1 : List Int) (u1199001 : Value),v14 = .int .i64 x14_1 ∧ Aside0 (spec_ivOrder.l0 kq l0 l0 (l0.length : Int) x14_1 (l0.length : Int) x1199001_1 = some (r1,r2)) ∧ Aside0 (kq ≤ k) ∧ Aside0 (Kd.R (Kd.int .i64) 3 w' w.heap.size (fun _=>True) u1199001 x1199001_1) ∧ Aside0 (w'.heap[gb1197]? = some (.cells #[.int .i64 0,(.slice none 0 0)] 28 (0,0))) ∧ Aside0 (w'.heap[gb1198]? = some (.cells #[.int .i64 (l0.length : Int),u1199001] 28 (0,0))) ∧ Aside0 (Below w.heap.size w w'))
 case atStart=>exact ⟨(0),(([] : List Int)),(.slice none 0 0),(by first|rfl|(simp;done)|(simp [*];done)),H',⟨Nat.le_refl _⟩,⟨by first|exact Kd.R_nil _ _ _ _ _|exact Kd.N_nil _ _ _ _ _|exact Kd.V_nil _ _ _ _ _|exact Kd.Q_nil _ _ _ _ _|exact Kd.S_nil _ _ _ _ _⟩,⟨by (with_reducible repeat (first|refine blk_drewN ?_ _|refine blk_drew ?_|refine blk_alloc ?_ _));refine blk_far ?_ NB1197_1198.out _;(with_reducible repeat (first|refine blk_drewN ?_ _|refine blk_drew ?_|refine blk_alloc ?_ _));refine blk_far ?_ NB1197_1198.out _;(with_reducible repeat (first|refine blk_drewN ?_ _|refine blk_drew ?_|refine blk_alloc ?_ _));exact BK1197.out⟩,⟨by (with_reducible repeat (first|refine blk_drewN ?_ _|refine blk_drew ?_|refine blk_alloc ?_ _));refine blk_put (cs:=#[.int .i64 (l0.length : Int),.slice none 0 0]) ?_ 1 _ rfl;(with_reducible repeat (first|refine blk_drewN ?_ _|refine blk_drew ?_|refine blk_alloc ?_ _));refine blk_put (cs:=#[.int .i64 0,.slice none 0 0]) ?_ 0 _ rfl;(with_reducible repeat (first|refine blk_drewN ?_ _|refine blk_drew ?_|refine blk_alloc ?_ _));exact BK1198.out⟩,⟨bb_⟩⟩
 case round =>
  clear H';try clear c1
  try clear p2
  try clear c4
  try clear hcz5_0
  try clear hcz5_1
  try clear hfz5_0
  try clear hfz5_1
  obtain ⟨x14_1,x1199001_1,u1199001,rfl,HA,HK1,HO_1199001,BK1197,BK1198,HB⟩:=hrel;cases gk with
  | zero => exact absurd HA.out (by simp [spec_ivOrder.l0])
  | succ k1 =>
   have H:=HA.out;clear HA;simp only [spec_ivOrder.l0] at H
   by_cases c6 : x14_1 < (l0.length : Int)
   ·rw [if_pos c6] at H;have c6b0 : decide (x14_1 < (l0.length : Int)) = true:=decide_eq_true c6;clear c6;by_cases c7 : 0 ≤ x14_1
    ·rw [if_pos c7] at H;have c7b0 : decide (0 ≤ x14_1) = true:=decide_eq_true c7;clear c7;by_cases c8 : x14_1 < (l0.length : Int)
     ·rw [if_pos c8] at H;have c8b0 : decide (x14_1 < (l0.length : Int)) = true:=decide_eq_true c8;clear c8;have H':=A_ H;clear H;have p1199 : 0 ≤ (x14_1 : Int):=of_decide_eq_true (by first|(with_reducible assumption)|assumption);have q1199 : x14_1 < (l0.length : Int):=of_decide_eq_true (by first|(with_reducible assumption)|assumption);obtain ⟨ad1199,e1199,hx1199_0,hx1199_1⟩:=at_T62 HR0.out x14_1 p1199 q1199;cases e1199
      (try replace hx1199_0:=(HB.out.cell (World.block_lt_of_cell? w _ hx1199_0)).trans hx1199_0);(try replace hx1199_1:=(HB.out.cell (World.block_lt_of_cell? w _ hx1199_1)).trans hx1199_1);replace p1199:=eq_true p1199;replace q1199:=eq_true q1199;go_wp2_with (first|((with_reducible refine gate_dst (N:=5) rfl ?_);refine box_event ?hg (N:=5) ?hd (cs:=#[.int .i64 0,.int .i64 0]) (t:=62) ?hr ?_;(case hd=>rfl);(case hg=>rfl);(case hr=>first|(go_simp;done)|(go_simp;rfl));intro gb1200 hg w9 hbox hb;replace HO_1199001:=rb_ HO_1199001 hb;have BK1200:=A_ (hbox);have GW1200:=A_ ((by rw [hg];exact (below_size bb_) : w.heap.size ≤ gb1200));have GE1200:=A_ ((by rw [hg];exact (below_size bb_) : w.heap.size ≤ gb1200));replace HB:=A_ (below_step bb_ hb);have NB1197_1200:=A_ ((by rw [hg];exact Nat.ne_of_lt (blk_lt (bl_ BK1197)) : gb1197 ≠ gb1200));have NB1200_1197:=A_ ((by rw [hg];exact Nat.ne_of_gt (blk_lt (bl_ BK1197)) : gb1200 ≠ gb1197));replace BK1197:=bz BK1197 hb;have NB1198_1200:=A_ ((by rw [hg];exact Nat.ne_of_lt (blk_lt (bl_ BK1198)) : gb1198 ≠ gb1200));have NB1200_1198:=A_ ((by rw [hg];exact Nat.ne_of_gt (blk_lt (bl_ BK1198)) : gb1200 ≠ gb1198));replace BK1198:=bz BK1198 hb;clear hb hbox hg;have hnb10:=NB1200_1197.out;have hnc10:=NB1197_1200.out;have hnb11:=NB1200_1198.out;have hnc11:=NB1198_1200.out;have hcz12_0 : w9.cell? ⟨gb1200,0,none⟩ = some (.int .i64 0):=blk_cell BK1200.out 0;have hcz12_1 : w9.cell? ⟨gb1200,1,none⟩ = some (.int .i64 0):=blk_cell BK1200.out 1;have hfz12_0:=blk_frozen BK1200.out 0;have hfz12_1:=blk_frozen BK1200.out 1))
      go_loopg [6,20] k1 (fun kq v6 v20 w'=>∃ (x6_2 : Int) (x20_2 : Int),v6 = .int .i64 x6_2 ∧ v20 = .int .i64 x20_2 ∧ Aside0 (spec_ivOrder.l1 kq l0 x6_2 l0 (l0.length : Int) x14_1 l0 (l0.length : Int) x20_2 (l0.length : Int) x1199001_1 ((rd_T62 l0 x14_1).f0) ((rd_T62 l0 x14_1).f1) = some (r1,r2)) ∧ Aside0 (kq ≤ k1) ∧ Aside0 (Kd.R (Kd.int .i64) 3 w' w.heap.size (fun _=>True) u1199001 x1199001_1) ∧ Aside0 (w'.heap[gb1197]? = some (.cells #[.int .i64 0,(.slice none 0 0)] 28 (0,0))) ∧ Aside0 (w'.heap[gb1198]? = some (.cells #[.int .i64 (l0.length : Int),u1199001] 28 (0,0))) ∧ Aside0 (w'.heap[gb1200]? = some (.cells #[.int .i64 ((rd_T62 l0 x14_1).f0),.int .i64 ((rd_T62 l0 x14_1).f1)] 62 (0,0))) ∧ Aside0 (Below w.heap.size w w'))
      case atStart=>exact ⟨(0),(0),(by first|rfl|(simp;done)|(simp [*];done)),(by first|rfl|(simp;done)|(simp [*];done)),H',⟨Nat.le_refl _⟩,⟨by (with_reducible repeat (first|apply Kd.R_alloc|apply Kd.R_drewN|apply Kd.R_drew));exact Kd.R_mono (Kd.R_far (p:=⟨gb1200,1,none⟩) (Kd.R_far (p:=⟨gb1200,0,none⟩) (Kd.R_types HO_1199001.out BK1200.out (by decide)) (fun _ hk=>hk.2) (.int .i64 ((rd_T62 l0 x14_1).f0))) (fun _ hk=>hk.2) (.int .i64 ((rd_T62 l0 x14_1).f1))) (fun _ hk=>trivial)⟩,⟨by (with_reducible repeat (first|refine blk_drewN ?_ _|refine blk_drew ?_|refine blk_alloc ?_ _));refine blk_far ?_ NB1197_1200.out _;(with_reducible repeat (first|refine blk_drewN ?_ _|refine blk_drew ?_|refine blk_alloc ?_ _));refine blk_far ?_ NB1197_1200.out _;(with_reducible repeat (first|refine blk_drewN ?_ _|refine blk_drew ?_|refine blk_alloc ?_ _));exact BK1197.out⟩,⟨by (with_reducible repeat (first|refine blk_drewN ?_ _|refine blk_drew ?_|refine blk_alloc ?_ _));refine blk_far ?_ NB1198_1200.out _;(with_reducible repeat (first|refine blk_drewN ?_ _|refine blk_drew ?_|refine blk_alloc ?_ _));refine blk_far ?_ NB1198_1200.out _;(with_reducible repeat (first|refine blk_drewN ?_ _|refine blk_drew ?_|refine blk_alloc ?_ _));exact BK1198.out⟩,⟨by (with_reducible repeat (first|refine blk_drewN ?_ _|refine blk_drew ?_|refine blk_alloc ?_ _));refine blk_put (cs:=#[.int .i64 ((rd_T62 l0 x14_1).f0),.int .i64 0]) ?_ 1 _ rfl;(with_reducible repeat (first|refine blk_drewN ?_ _|refine blk_drew ?_|refine blk_alloc ?_ _));refine blk_put (cs:=#[.int .i64 0,.int .i64 0]) ?_ 0 _ rfl;(with_reducible repeat (first|refine blk_drewN ?_ _|refine blk_drew ?_|refine blk_alloc ?_ _));exact BK1200.out⟩,⟨bb_⟩⟩
      case round =>
       clear H';try clear c1
       try clear p1
       try clear q1
       try clear hx1
       try clear p2
       try clear c4
       try clear c6
       try clear c6b0
       try clear c7
       try clear c7b0
       try clear c8
       try clear c8b0
       try clear c10
       try clear c11
       try clear p11
       try clear q11
       try clear hx11
       try clear hcz12_0
       try clear hcz12_1
       try clear hcz5_0
       try clear hcz5_1
       try clear hfz12_0
       try clear hfz12_1
       try clear hfz5_0
       try clear hfz5_1
       try clear hx1199_0
       try clear hx1199_1
       try clear p1199
       try clear p2
       try clear q1199
       obtain ⟨x6_2,x20_2,rfl,rfl,HA,HK2,HO_1199001,BK1197,BK1198,BK1200,HB⟩:=hrel;cases gk with
       | zero=>exact absurd HA.out (by simp [spec_ivOrder.l1])
       | succ k2 =>
        have H:=HA.out;clear HA;simp only [spec_ivOrder.l1] at H
        by_cases c13 : x20_2 < (l0.length : Int)
        ·rw [if_pos c13] at H;have c13b0 : decide (x20_2 < (l0.length : Int)) = true:=decide_eq_true c13;clear c13;by_cases c14 : 0 ≤ x20_2
         ·rw [if_pos c14] at H;have c14b0 : decide (0 ≤ x20_2) = true:=decide_eq_true c14;clear c14;by_cases c15 : x20_2 < (l0.length : Int)
          ·rw [if_pos c15] at H;have c15b0 : decide (x20_2 < (l0.length : Int)) = true:=decide_eq_true c15;clear c15;by_cases c16 : ((rd_T62 l0 x14_1).f1) < ((rd_T62 l0 x20_2).f0)
           ·rw [if_pos c16] at H;have c16b0 : decide (((rd_T62 l0 x14_1).f1) < ((rd_T62 l0 x20_2).f0)) = true:=decide_eq_true c16;clear c16;have c17b0:=eq_true (of_decide_eq_true (by first|(with_reducible assumption)|assumption) : 0 ≤ x20_2);obtain ⟨ji18,hji18⟩ : ∃ j_ : Int,(shl .i64 1 x20_2) = j_:=⟨_,rfl⟩;replace H : (spec_ivOrder.l1 k2 l0 (Go.bits .or .i64 x6_2 (ji18)) l0 (l0.length : Int) x14_1 l0 (l0.length : Int) (wrap64 (x20_2 + 1)) (l0.length : Int) x1199001_1 ((rd_T62 l0 x14_1).f0) ((rd_T62 l0 x14_1).f1)) = some (r1,r2):=by first|(rw [hji18] at H;exact H)|(simp only [hji18] at H ⊢;exact H)
            have hji18_ : (IntKind.i64.wrap (1 * 2 ^ min x20_2.toNat 64)) = ji18:=hji18;have hji18z : x20_2 ≤ 64 → (IntKind.i64.wrap (1 * 2 ^ x20_2.toNat)) = ji18:=shl_small hji18;have hji18u : (IntKind.i64.wrap (2 ^ min x20_2.toNat 64)) = ji18:=by have h_:=hji18_;rw [Int.one_mul] at h_;exact h_
            have hji18v : x20_2 ≤ 64 → (IntKind.i64.wrap (2 ^ x20_2.toNat)) = ji18:=fun hle_=>by have h_:=hji18z hle_;rw [Int.one_mul] at h_;exact h_
            have hji18y : (wrap64 (1 * 2 ^ min x20_2.toNat 64)) = ji18:=(i64_w _).symm.trans hji18_;have hji18x : x20_2 ≤ 64 → (wrap64 (1 * 2 ^ x20_2.toNat)) = ji18:=fun h_=>(i64_w _).symm.trans (hji18z h_)
            have H':=A_ H;clear H;have p1201 : 0 ≤ (x20_2 : Int):=of_decide_eq_true (by first|(with_reducible assumption)|assumption);have q1201 : x20_2 < (l0.length : Int):=of_decide_eq_true (by first|(with_reducible assumption)|assumption);obtain ⟨ad1201,e1201,hx1201_0,hx1201_1⟩:=at_T62 HR0.out x20_2 p1201 q1201;obtain rfl : ad1199 = ad1201:=(by injection e1201);(try replace hx1201_0:=(HB.out.cell (World.block_lt_of_cell? w _ hx1201_0)).trans hx1201_0);(try replace hx1201_1:=(HB.out.cell (World.block_lt_of_cell? w _ hx1201_1)).trans hx1201_1);replace p1201:=eq_true p1201;replace q1201:=eq_true q1201;go_wp2_with (first|((with_reducible refine gate_dst (N:=8) rfl ?_);refine box_event ?hg (N:=8) ?hd (cs:=#[.int .i64 0,.int .i64 0]) (t:=62) ?hr ?_;(case hd=>rfl);(case hg=>rfl);(case hr=>first|(go_simp;done)|(go_simp;rfl));intro gb1202 hg w19 hbox hb;replace HO_1199001:=rb_ HO_1199001 hb;have BK1202:=A_ (hbox);have GW1202:=A_ ((by rw [hg];exact (below_size bb_) : w.heap.size ≤ gb1202));have GE1202:=A_ ((by rw [hg];exact (below_size bb_) : w.heap.size ≤ gb1202));replace HB:=A_ (below_step bb_ hb);have NB1197_1202:=A_ ((by rw [hg];exact Nat.ne_of_lt (blk_lt (bl_ BK1197)) : gb1197 ≠ gb1202));have NB1202_1197:=A_ ((by rw [hg];exact Nat.ne_of_gt (blk_lt (bl_ BK1197)) : gb1202 ≠ gb1197));replace BK1197:=bz BK1197 hb;have NB1198_1202:=A_ ((by rw [hg];exact Nat.ne_of_lt (blk_lt (bl_ BK1198)) : gb1198 ≠ gb1202));have NB1202_1198:=A_ ((by rw [hg];exact Nat.ne_of_gt (blk_lt (bl_ BK1198)) : gb1202 ≠ gb1198));replace BK1198:=bz BK1198 hb;have NB1200_1202:=A_ ((by rw [hg];exact Nat.ne_of_lt (blk_lt (bl_ BK1200)) : gb1200 ≠ gb1202));have NB1202_1200:=A_ ((by rw [hg];exact Nat.ne_of_gt (blk_lt (bl_ BK1200)) : gb1202 ≠ gb1200));replace BK1200:=bz BK1200 hb;clear hb hbox hg;have hnb20:=NB1202_1197.out;have hnc20:=NB1197_1202.out;have hnb21:=NB1202_1198.out;have hnc21:=NB1198_1202.out;have hnb22:=NB1202_1200.out;have hnc22:=NB1200_1202.out;have hcz23_0 : w19.cell? ⟨gb1202,0,none⟩ = some (.int .i64 0):=blk_cell BK1202.out 0;have hcz23_1 : w19.cell? ⟨gb1202,1,none⟩ = some (.int .i64 0):=blk_cell BK1202.out 1;have hfz23_0:=blk_frozen BK1202.out 0;have hfz23_1:=blk_frozen BK1202.out 1;have hnb24:=NB1200_1197.out;have hnc24:=NB1197_1200.out;have hnb25:=NB1200_1198.out;have hnc25:=NB1198_1200.out;have hcz26_0 : w19.cell? ⟨gb1200,0,none⟩ = some (.int .i64 ((rd_T62 l0 x14_1).f0)):=blk_cell BK1200.out 0;have hcz26_1 : w19.cell? ⟨gb1200,1,none⟩ = some (.int .i64 ((rd_T62 l0 x14_1).f1)):=blk_cell BK1200.out 1;have hfz26_0:=blk_frozen BK1200.out 0;have hfz26_1:=blk_frozen BK1200.out 1))
            go_roundg k2
            case measure=>have:=HK1.out;have:=HK2.out;omega
            case rel=>exact ⟨(Go.bits .or .i64 x6_2 (ji18)),(wrap64 (x20_2 + 1)),(by first|rfl|(simp;done)|(simp only [← hji18] <;> (first|rfl|simp))|(simp [*];done)),(by first|rfl|(simp;done)|(simp [*];done)),H',⟨by have:=HK1.out;have:=HK2.out;omega⟩,⟨by (with_reducible repeat (first|apply Kd.R_alloc|apply Kd.R_drewN|apply Kd.R_drew));exact Kd.R_mono (Kd.R_far (p:=⟨gb1202,1,none⟩) (Kd.R_far (p:=⟨gb1202,0,none⟩) (Kd.R_types HO_1199001.out BK1202.out (by decide)) (fun _ hk=>hk.2) (.int .i64 ((rd_T62 l0 x20_2).f0))) (fun _ hk=>hk.2) (.int .i64 ((rd_T62 l0 x20_2).f1))) (fun _ hk=>trivial)⟩,⟨by (with_reducible repeat (first|refine blk_drewN ?_ _|refine blk_drew ?_|refine blk_alloc ?_ _));refine blk_far ?_ NB1197_1202.out _;(with_reducible repeat (first|refine blk_drewN ?_ _|refine blk_drew ?_|refine blk_alloc ?_ _));refine blk_far ?_ NB1197_1202.out _;(with_reducible repeat (first|refine blk_drewN ?_ _|refine blk_drew ?_|refine blk_alloc ?_ _));exact BK1197.out⟩,⟨by (with_reducible repeat (first|refine blk_drewN ?_ _|refine blk_drew ?_|refine blk_alloc ?_ _));refine blk_far ?_ NB1198_1202.out _;(with_reducible repeat (first|refine blk_drewN ?_ _|refine blk_drew ?_|refine blk_alloc ?_ _));refine blk_far ?_ NB1198_1202.out _;(with_reducible repeat (first|refine blk_drewN ?_ _|refine blk_drew ?_|refine blk_alloc ?_ _));exact BK1198.out⟩,⟨by (with_reducible repeat (first|refine blk_drewN ?_ _|refine blk_drew ?_|refine blk_alloc ?_ _));refine blk_far ?_ NB1200_1202.out _;(with_reducible repeat (first|refine blk_drewN ?_ _|refine blk_drew ?_|refine blk_alloc ?_ _));refine blk_far ?_ NB1200_1202.out _;(with_reducible repeat (first|refine blk_drewN ?_ _|refine blk_drew ?_|refine blk_alloc ?_ _));exact BK1200.out⟩,⟨bb_⟩⟩
           ·rw [if_neg c16] at H;have c16b0 : decide (((rd_T62 l0 x14_1).f1) < ((rd_T62 l0 x20_2).f0)) = false:=decide_eq_false c16;clear c16;have H':=A_ H;clear H;have p1201 : 0 ≤ (x20_2 : Int):=of_decide_eq_true (by first|(with_reducible assumption)|assumption);have q1201 : x20_2 < (l0.length : Int):=of_decide_eq_true (by first|(with_reducible assumption)|assumption);obtain ⟨ad1201,e1201,hx1201_0,hx1201_1⟩:=at_T62 HR0.out x20_2 p1201 q1201;obtain rfl : ad1199 = ad1201:=(by injection e1201);(try replace hx1201_0:=(HB.out.cell (World.block_lt_of_cell? w _ hx1201_0)).trans hx1201_0);(try replace hx1201_1:=(HB.out.cell (World.block_lt_of_cell? w _ hx1201_1)).trans hx1201_1);replace p1201:=eq_true p1201;replace q1201:=eq_true q1201;go_wp2_with (first|((with_reducible refine gate_dst (N:=8) rfl ?_);refine box_event ?hg (N:=8) ?hd (cs:=#[.int .i64 0,.int .i64 0]) (t:=62) ?hr ?_;(case hd=>rfl);(case hg=>rfl);(case hr=>first|(go_simp;done)|(go_simp;rfl));intro gb1202 hg w27 hbox hb;replace HO_1199001:=rb_ HO_1199001 hb;have BK1202:=A_ (hbox);have GW1202:=A_ ((by rw [hg];exact (below_size bb_) : w.heap.size ≤ gb1202));have GE1202:=A_ ((by rw [hg];exact (below_size bb_) : w.heap.size ≤ gb1202));replace HB:=A_ (below_step bb_ hb);have NB1197_1202:=A_ ((by rw [hg];exact Nat.ne_of_lt (blk_lt (bl_ BK1197)) : gb1197 ≠ gb1202));have NB1202_1197:=A_ ((by rw [hg];exact Nat.ne_of_gt (blk_lt (bl_ BK1197)) : gb1202 ≠ gb1197));replace BK1197:=bz BK1197 hb;have NB1198_1202:=A_ ((by rw [hg];exact Nat.ne_of_lt (blk_lt (bl_ BK1198)) : gb1198 ≠ gb1202));have NB1202_1198:=A_ ((by rw [hg];exact Nat.ne_of_gt (blk_lt (bl_ BK1198)) : gb1202 ≠ gb1198));replace BK1198:=bz BK1198 hb;have NB1200_1202:=A_ ((by rw [hg];exact Nat.ne_of_lt (blk_lt (bl_ BK1200)) : gb1200 ≠ gb1202));have NB1202_1200:=A_ ((by rw [hg];exact Nat.ne_of_gt (blk_lt (bl_ BK1200)) : gb1202 ≠ gb1200));replace BK1200:=bz BK1200 hb;clear hb hbox hg;have hnb28:=NB1202_1197.out;have hnc28:=NB1197_1202.out;have hnb29:=NB1202_1198.out;have hnc29:=NB1198_1202.out;have hnb30:=NB1202_1200.out;have hnc30:=NB1200_1202.out;have hcz31_0 : w27.cell? ⟨gb1202,0,none⟩ = some (.int .i64 0):=blk_cell BK1202.out 0;have hcz31_1 : w27.cell? ⟨gb1202,1,none⟩ = some (.int .i64 0):=blk_cell BK1202.out 1;have hfz31_0:=blk_frozen BK1202.out 0;have hfz31_1:=blk_frozen BK1202.out 1;have hnb32:=NB1200_1197.out;have hnc32:=NB1197_1200.out;have hnb33:=NB1200_1198.out;have hnc33:=NB1198_1200.out;have hcz34_0 : w27.cell? ⟨gb1200,0,none⟩ = some (.int .i64 ((rd_T62 l0 x14_1).f0)):=blk_cell BK1200.out 0;have hcz34_1 : w27.cell? ⟨gb1200,1,none⟩ = some (.int .i64 ((rd_T62 l0 x14_1).f1)):=blk_cell BK1200.out 1;have hfz34_0:=blk_frozen BK1200.out 0;have hfz34_1:=blk_frozen BK1200.out 1))
            go_roundg k2
            case measure=>have:=HK1.out;have:=HK2.out;omega
            case rel=>exact ⟨(x6_2),(wrap64 (x20_2 + 1)),(by first|rfl|(simp;done)|(simp [*];done)),(by first|rfl|(simp;done)|(simp [*];done)),H',⟨by have:=HK1.out;have:=HK2.out;omega⟩,⟨by (with_reducible repeat (first|apply Kd.R_alloc|apply Kd.R_drewN|apply Kd.R_drew));exact Kd.R_mono (Kd.R_far (p:=⟨gb1202,1,none⟩) (Kd.R_far (p:=⟨gb1202,0,none⟩) (Kd.R_types HO_1199001.out BK1202.out (by decide)) (fun _ hk=>hk.2) (.int .i64 ((rd_T62 l0 x20_2).f0))) (fun _ hk=>hk.2) (.int .i64 ((rd_T62 l0 x20_2).f1))) (fun _ hk=>trivial)⟩,⟨by (with_reducible repeat (first|refine blk_drewN ?_ _|refine blk_drew ?_|refine blk_alloc ?_ _));refine blk_far ?_ NB1197_1202.out _;(with_reducible repeat (first|refine blk_drewN ?_ _|refine blk_drew ?_|refine blk_alloc ?_ _));refine blk_far ?_ NB1197_1202.out _;(with_reducible repeat (first|refine blk_drewN ?_ _|refine blk_drew ?_|refine blk_alloc ?_ _));exact BK1197.out⟩,⟨by (with_reducible repeat (first|refine blk_drewN ?_ _|refine blk_drew ?_|refine blk_alloc ?_ _));refine blk_far ?_ NB1198_1202.out _;(with_reducible repeat (first|refine blk_drewN ?_ _|refine blk_drew ?_|refine blk_alloc ?_ _));refine blk_far ?_ NB1198_1202.out _;(with_reducible repeat (first|refine blk_drewN ?_ _|refine blk_drew ?_|refine blk_alloc ?_ _));exact BK1198.out⟩,⟨by (with_reducible repeat (first|refine blk_drewN ?_ _|refine blk_drew ?_|refine blk_alloc ?_ _));refine blk_far ?_ NB1200_1202.out _;(with_reducible repeat (first|refine blk_drewN ?_ _|refine blk_drew ?_|refine blk_alloc ?_ _));refine blk_far ?_ NB1200_1202.out _;(with_reducible repeat (first|refine blk_drewN ?_ _|refine blk_drew ?_|refine blk_alloc ?_ _));exact BK1200.out⟩,⟨bb_⟩⟩
          ·rw [if_neg c15] at H;exact absurd H (by simp)
         ·rw [if_neg c14] at H;exact absurd H (by simp)
        ·rw [if_neg c13] at H;have c13b0 : decide (x20_2 < (l0.length : Int)) = false:=decide_eq_false c13;clear c13;by_cases c35 : x1199001_1.length < 17592186044416
         ·rw [if_pos c35] at H;have LMc35:=A_ c35;clear c35;obtain ⟨y1203,hy1203⟩ : ∃ y_ : List Int,y_ = (x1199001_1 ++ [x6_2]):=⟨_,rfl⟩;replace H : (spec_ivOrder.l0 k2 l0 l0 (l0.length : Int) (wrap64 (x14_1 + 1)) (l0.length : Int) y1203) = some (r1,r2):=by first|(rw [hy1203];with_reducible exact H)|(have H2_:=(Option.bind_some _ _).symm.trans H;rw [hy1203];with_reducible exact H2_)|(have H2_:=(Option.bind_some _ _).symm.trans H;with_reducible exact H2_)|with_reducible exact H|(rw [hy1203];exact H)|exact H
          have Ny1203:=A_ hy1203;clear hy1203;have H':=A_ H;clear H;have hnb36:=NB1198_1197.out;have hnc36:=NB1197_1198.out;have hnb37:=NB1198_1200.out;have hnc37:=NB1200_1198.out;have hcz38_0 : wr.cell? ⟨gb1198,0,none⟩ = some (.int .i64 (l0.length : Int)):=blk_cell BK1198.out 0;have hcz38_1 : wr.cell? ⟨gb1198,1,none⟩ = some (u1199001):=blk_cell BK1198.out 1;have hfz38_0:=blk_frozen BK1198.out 0;have hfz38_1:=blk_frozen BK1198.out 1;go_wp2_with (first|((with_reducible refine gate_builtin (b:=.append) (xs:=#[.tmp 36,.tmp 38]) rfl ?_);at_builtin;refine Kd.R_append (Kd.int .i64) (w0:=w) w.heap.size rfl (.tmp 36) (.tmp 38) 22 3 (.int .i64 0) 8 rfl Tryd.underlying22 info3 rfl (by decide) (by omega) u1199001 x1199001_1 x6_2 [.int .i64 x6_2] (fun _=>True) (fun _=>False) rfl rfl ?aP (fun _ hk=>hk.elim) ?aF ?aO ?aB ?aS ?aL ?_;(case aP=>exact rfl);(case aB=>exact bb_);(case aF=>exact (fun _ _=>trivial));(case aO=>exact (rl_ HO_1199001));(case aS=>exact (below_size bb_));(case aL=>have:=LMc35.out;omega);intro v1204 w39 ho hb hg hat;rw [← Ny1203.out] at ho;replace BK1197:=A_ (blk_grown (g:=gb1197) (o:=.cells #[.int .i64 0,.slice none 0 0] 28 (0,0)) (bl_ BK1197) hg (Kd.R_ne HO_1199001.out BK1197.out (by decide)));replace BK1198:=A_ (blk_grown (g:=gb1198) (o:=.cells #[.int .i64 (l0.length : Int),u1199001] 28 (0,0)) (bl_ BK1198) hg (Kd.R_ne HO_1199001.out BK1198.out (by decide)));replace BK1200:=A_ (blk_grown (g:=gb1200) (o:=.cells #[.int .i64 ((rd_T62 l0 x14_1).f0),.int .i64 ((rd_T62 l0 x14_1).f1)] 62 (0,0)) (bl_ BK1200) hg (Kd.R_ne HO_1199001.out BK1200.out (by decide)));replace HB:=A_ (hb);have HO1205:=A_ (ho);clear HO_1199001;clear ho hb hg hat;obtain ⟨Ao40,co40,eo40⟩:=Kd.R_slice HO1205.out;subst eo40;have hcz41_0 : w39.cell? ⟨gb1198,0,none⟩ = some (.int .i64 (l0.length : Int)):=blk_cell BK1198.out 0;have hcz41_1 : w39.cell? ⟨gb1198,1,none⟩ = some (u1199001):=blk_cell BK1198.out 1;have hfz41_0:=blk_frozen BK1198.out 0;have hfz41_1:=blk_frozen BK1198.out 1))
          go_roundg k2
          case measure=>have:=HK1.out;have:=HK2.out;omega
          case rel=>exact ⟨(wrap64 (x14_1 + 1)),(y1203),(.slice Ao40 y1203.length co40),(by first|rfl|(simp;done)|(simp [*];done)),H',⟨by have:=HK1.out;have:=HK2.out;omega⟩,⟨by (with_reducible repeat (first|apply Kd.R_alloc|apply Kd.R_drewN|apply Kd.R_drew));exact Kd.R_mono (Kd.R_far (p:=⟨gb1198,1,none⟩) (Kd.R_types HO1205.out BK1198.out (by decide)) (fun _ hk=>hk.2) (.slice Ao40 y1203.length co40)) (fun _ hk=>trivial)⟩,⟨by (with_reducible repeat (first|refine blk_drewN ?_ _|refine blk_drew ?_|refine blk_alloc ?_ _));refine blk_far ?_ NB1197_1198.out _;(with_reducible repeat (first|refine blk_drewN ?_ _|refine blk_drew ?_|refine blk_alloc ?_ _));exact BK1197.out⟩,⟨by (with_reducible repeat (first|refine blk_drewN ?_ _|refine blk_drew ?_|refine blk_alloc ?_ _));refine blk_put (cs:=#[.int .i64 (l0.length : Int),u1199001]) ?_ 1 _ rfl;(with_reducible repeat (first|refine blk_drewN ?_ _|refine blk_drew ?_|refine blk_alloc ?_ _));exact BK1198.out⟩,⟨bb_⟩⟩
         ·rw [if_neg c35] at H;exact absurd H (by simp)
     ·rw [if_neg c8] at H;exact absurd H (by simp)
    ·rw [if_neg c7] at H;exact absurd H (by simp)
   ·rw [if_neg c6] at H;have c6b0 : decide (x14_1 < (l0.length : Int)) = false:=decide_eq_false c6;clear c6;simp only [Option.some.injEq,Prod.mk.injEq] at H
    obtain ⟨rfl,rfl⟩:=H;have hnb42:=NB1198_1197.out;have hnc42:=NB1197_1198.out;have hcz43_0 : wr.cell? ⟨gb1198,0,none⟩ = some (.int .i64 (l0.length : Int)):=blk_cell BK1198.out 0;have hcz43_1 : wr.cell? ⟨gb1198,1,none⟩ = some (u1199001):=blk_cell BK1198.out 1;have hfz43_0:=blk_frozen BK1198.out 0;have hfz43_1:=blk_frozen BK1198.out 1;have hcz44_0 : wr.cell? ⟨gb1197,0,none⟩ = some (.int .i64 0):=blk_cell BK1197.out 0;have hcz44_1 : wr.cell? ⟨gb1197,1,none⟩ = some (.slice none 0 0):=blk_cell BK1197.out 1;have hfz44_0:=blk_frozen BK1197.out 0;have hfz44_1:=blk_frozen BK1197.out 1;obtain ⟨Ao45,co45,eo45⟩:=Kd.R_slice HO_1199001.out;subst eo45;go_wp2
    refine bodyPost_ret (results_cell_row rfl _ _ gb1197 28 #[.int .i64 (l0.length : Int),.slice Ao45 x1199001_1.length co45] (0,0) _ rfl (by (with_reducible repeat (first|refine blk_drewN ?_ _|refine blk_drew ?_|refine blk_alloc ?_ _));refine blk_put (cs:=#[.int .i64 (l0.length : Int),.slice none 0 0]) ?_ 1 _ rfl;(with_reducible repeat (first|refine blk_drewN ?_ _|refine blk_drew ?_|refine blk_alloc ?_ _));refine blk_put (cs:=#[.int .i64 0,.slice none 0 0]) ?_ 0 _ rfl;(with_reducible repeat (first|refine blk_drewN ?_ _|refine blk_drew ?_|refine blk_alloc ?_ _));exact BK1197.out) Tryd.underlying28 rfl (by kernel_rfl)) rfl ?_
    exact ⟨_,by first|rfl|(simp [errW_none,errW_some] <;> rfl)|(simp [*,errW_none,errW_some] <;> rfl),by (with_reducible repeat (first|apply Kd.R_alloc|apply Kd.R_drewN|apply Kd.R_drew));exact Kd.R_mono (Kd.R_far (p:=⟨gb1197,1,none⟩) (Kd.R_far (p:=⟨gb1197,0,none⟩) (Kd.R_types HO_1199001.out BK1197.out (by decide)) (fun _ hk=>hk.2) (.int .i64 (l0.length : Int))) (fun _ hk=>hk.2) (.slice Ao45 x1199001_1.length co45)) (fun _ hk=>trivial),bb_⟩
def spec_OrderOfIntervals.f (k : Nat) (l0 : List (S62)) : Option (Int × List Int × Bool) := (spec_ivGood.f k l0).bind fun t1207 => (if t1207 = true then ((spec_ivOrder.f k l0).bind fun bt1208 => (some (bt1208.1, bt1208.2, true))) else (some (0, ([] : List Int), false)))
set_option maxHeartbeats 8000000 in
set_option maxRecDepth 100000 in
theorem spec_OrderOfIntervals.calls (k : Nat) (A0 : Option Addr) (c0 : Nat) (l0 : List (S62)) (r1 : Int) (r2 : List Int) (r3 : Bool) (w : World) (hr0 : Kd.C k62 w A0 l0.length l0) (hc0 : l0.length ≤ c0) (h : spec_OrderOfIntervals.f k l0 = some (r1,r2,r3)) :
 Calls Tryd.prog 45 #[.slice A0 l0.length c0] w fun e w'=>∃ v1_ : Value,e = .returned (.tuple #[.agg #[.int .i64 r1,v1_],.bool r3]) ∧ Kd.R (Kd.int .i64) 3 w' w.heap.size (fun _=>True) v1_ r2 ∧ Below w.heap.size w w':=by
 have hu28:=Tryd.underlying28;have HR0:=A_ hr0;have HC0:=A_ hc0;clear hr0 hc0;have HB:=A_ (Below.refl w.heap.size w);have H : ((spec_ivGood.f k l0).bind fun t1207=>(if t1207 = true then ((spec_ivOrder.f k l0).bind fun bt1208=>(some (bt1208.1,bt1208.2,true))) else (some (0,([] : List Int),false)))) = some (r1,r2,r3):=h;clear h;replace H:=Option.bind_eq_some_iff.mp H;obtain ⟨t1207,A20,H⟩:=H;replace H : (if t1207 = true then ((spec_ivOrder.f k l0).bind fun bt1208=>(some (bt1208.1,bt1208.2,true))) else (some (0,([] : List Int),false))) = some (r1,r2,r3):=H;have A2:=A_ A20;clear A20;by_cases c3 : t1207 = true
 ·subst c3;have H1 : ((spec_ivOrder.f k l0).bind fun bt1208=>(some (bt1208.1,bt1208.2,true))) = some (r1,r2,r3):=by rw [if_pos rfl] at H;exact H
  clear H;have H:=H1;clear H1;replace H:=Option.bind_eq_some_iff.mp H;obtain ⟨⟨t1208,t1209⟩,A40,H⟩:=H;replace H : (some (t1208,t1209,true)) = some (r1,r2,r3):=H;have A4:=A_ A40;clear A40;simp only [Option.some.injEq,Prod.mk.injEq] at H
  obtain ⟨rfl,rfl,rfl⟩:=H;go_enter Tryd.func45,Tryd.ntmps45
  go_wp2_with (first|((with_reducible refine gate_dst (N:=2) rfl ?_);refine box_event ?hg (N:=2) ?hd (cs:=#[.int .i64 0,.slice none 0 0]) (t:=28) ?hr ?_;(case hd=>rfl);(case hg=>rfl);(case hr=>first|(go_simp;done)|(go_simp;rfl));intro gb1206 hg w5 hbox hb;have BK1206:=A_ (hbox);have GW1206:=A_ ((by rw [hg];exact (below_size bb_) : w.heap.size ≤ gb1206));have GE1206:=A_ ((by rw [hg];exact (below_size bb_) : w.heap.size ≤ gb1206));replace HB:=A_ (below_step bb_ hb);clear hb hbox hg)|((with_reducible refine gate_callee (f:=132) rfl ?_);refine goesL_ (some 5) rfl rfl Tryd.func132 (by kernel_rfl) rfl #[.slice A0 l0.length c0] rfl au_ ?_;(with_reducible refine (spec_ivGood.calls k _ _ l0 true _ ?side1 ?side2 A2.out).mono ?_);(case side1=>exact cl_ (Kd.C_below HR0.out HB.out));(case side2=>exact HC0.out);rintro e w6 ⟨rfl,hb⟩;refine ⟨_,rfl,?_⟩;replace BK1206:=bz BK1206 hb;replace HB:=A_ (below_step bb_ hb);(try clear hb);(try clear hb2);(try clear hk);(try clear hi))|((with_reducible refine gate_callee (f:=133) rfl ?_);refine goesL_ (some 9) rfl rfl Tryd.func133 (by kernel_rfl) rfl #[.slice A0 l0.length c0] rfl au_ ?_;(with_reducible refine (spec_ivOrder.calls k _ _ l0 t1208 t1209 _ ?side1 ?side2 A4.out).mono ?_);(case side1=>exact cl_ (Kd.C_below HR0.out HB.out));(case side2=>exact HC0.out);rintro e w7 ⟨v1210,rfl,ho0,hb⟩;refine ⟨_,rfl,?_⟩;have HO1211:=A_ (Kd.R_lower ho0 (below_size bb_));replace BK1206:=bz BK1206 hb;replace HB:=A_ (below_step bb_ hb);(try clear hb);(try clear hb2);(try clear hk);(try clear hi);(try clear ho0);have hcz8_0 : w7.cell? ⟨gb1206,0,none⟩ = some (.int .i64 0):=blk_cell BK1206.out 0;have hcz8_1 : w7.cell? ⟨gb1206,1,none⟩ = some (.slice none 0 0):=blk_cell BK1206.out 1;have hfz8_0:=blk_frozen BK1206.out 0;have hfz8_1:=blk_frozen BK1206.out 1;obtain ⟨Ao9,co9,eo9⟩:=Kd.R_slice HO1211.out;subst eo9))
  refine bodyPost_ret (results_ct rfl _ _ gb1206 28 #[.int .i64 t1208,.slice Ao9 t1209.length co9] (0,0) _ rfl (by (with_reducible repeat (first|refine blk_drewN ?_ _|refine blk_drew ?_|refine blk_alloc ?_ _));refine blk_put (cs:=#[.int .i64 t1208,.slice none 0 0]) ?_ 1 _ rfl;(with_reducible repeat (first|refine blk_drewN ?_ _|refine blk_drew ?_|refine blk_alloc ?_ _));refine blk_put (cs:=#[.int .i64 0,.slice none 0 0]) ?_ 0 _ rfl;(with_reducible repeat (first|refine blk_drewN ?_ _|refine blk_drew ?_|refine blk_alloc ?_ _));exact BK1206.out) Tryd.underlying28 rfl (by kernel_rfl)) rfl ?_
  exact ⟨_,by first|rfl|(simp [errW_none,errW_some] <;> rfl)|(simp [*,errW_none,errW_some] <;> rfl),by (with_reducible repeat (first|apply Kd.R_alloc|apply Kd.R_drewN|apply Kd.R_drew));exact Kd.R_mono (Kd.R_far (p:=⟨gb1206,1,none⟩) (Kd.R_far (p:=⟨gb1206,0,none⟩) (Kd.R_types HO1211.out BK1206.out (by decide)) (fun _ hk=>hk.2) (.int .i64 t1208)) (fun _ hk=>hk.2) (.slice Ao9 t1209.length co9)) (fun _ hk=>trivial),bb_⟩
 ·replace c3:=Bool.eq_false_iff.mpr c3;subst c3;have H1 : (some (0,([] : List Int),false)) = some (r1,r2,r3):=by rw [if_neg (show ¬ (false = true) by decide)] at H;exact H
  clear H;have H:=H1;clear H1;simp only [Option.some.injEq,Prod.mk.injEq] at H
  obtain ⟨rfl,rfl,rfl⟩:=H;go_enter Tryd.func45,Tryd.ntmps45
  go_wp2_with (first|((with_reducible refine gate_dst (N:=2) rfl ?_);refine box_event ?hg (N:=2) ?hd (cs:=#[.int .i64 0,.slice none 0 0]) (t:=28) ?hr ?_;(case hd=>rfl);(case hg=>rfl);(case hr=>first|(go_simp;done)|(go_simp;rfl));intro gb1206 hg w10 hbox hb;have BK1206:=A_ (hbox);have GW1206:=A_ ((by rw [hg];exact (below_size bb_) : w.heap.size ≤ gb1206));have GE1206:=A_ ((by rw [hg];exact (below_size bb_) : w.heap.size ≤ gb1206));replace HB:=A_ (below_step bb_ hb);clear hb hbox hg)|((with_reducible refine gate_callee (f:=132) rfl ?_);refine goesL_ (some 5) rfl rfl Tryd.func132 (by kernel_rfl) rfl #[.slice A0 l0.length c0] rfl au_ ?_;(with_reducible refine (spec_ivGood.calls k _ _ l0 false _ ?side1 ?side2 A2.out).mono ?_);(case side1=>exact cl_ (Kd.C_below HR0.out HB.out));(case side2=>exact HC0.out);rintro e w11 ⟨rfl,hb⟩;refine ⟨_,rfl,?_⟩;replace BK1206:=bz BK1206 hb;replace HB:=A_ (below_step bb_ hb);(try clear hb);(try clear hb2);(try clear hk);(try clear hi);have hcz12_0 : w11.cell? ⟨gb1206,0,none⟩ = some (.int .i64 0):=blk_cell BK1206.out 0;have hcz12_1 : w11.cell? ⟨gb1206,1,none⟩ = some (.slice none 0 0):=blk_cell BK1206.out 1;have hfz12_0:=blk_frozen BK1206.out 0;have hfz12_1:=blk_frozen BK1206.out 1))
  refine bodyPost_ret (results_ct rfl _ _ gb1206 28 #[.int .i64 0,.slice none 0 0] (0,0) _ rfl (by (with_reducible repeat (first|refine blk_drewN ?_ _|refine blk_drew ?_|refine blk_alloc ?_ _));refine blk_put (cs:=#[.int .i64 0,.slice none 0 0]) ?_ 1 _ rfl;(with_reducible repeat (first|refine blk_drewN ?_ _|refine blk_drew ?_|refine blk_alloc ?_ _));refine blk_put (cs:=#[.int .i64 0,.slice none 0 0]) ?_ 0 _ rfl;(with_reducible repeat (first|refine blk_drewN ?_ _|refine blk_drew ?_|refine blk_alloc ?_ _));exact BK1206.out) Tryd.underlying28 rfl (by kernel_rfl)) rfl ?_
  exact ⟨_,by first|rfl|(simp [errW_none,errW_some] <;> rfl)|(simp [*,errW_none,errW_some] <;> rfl),by first|exact Kd.R_nil _ _ _ _ _|exact Kd.N_nil _ _ _ _ _|exact Kd.V_nil _ _ _ _ _|exact Kd.Q_nil _ _ _ _ _|exact Kd.S_nil _ _ _ _ _,bb_⟩
def laws_pSame.l0 : Nat → List Int → List Int → Int → Int → Option (Bool)
 | 0,_,_,_,_=>none
 | k + 1,x0,x1,x12,x13=>if x13 < x12 then (if 0 ≤ x13 then (if x13 < (x0.length : Int) then (if x13 < (x1.length : Int) then (if (rd x0 x13) = (rd x1 x13) then (laws_pSame.l0 k x0 x1 x12 (wrap64 (x13 + 1))) else (some false)) else (none)) else (none)) else (none)) else (some true)
def laws_pSame.f (k : Nat) (l0 : List Int) (l1 : List Int) : Option (Bool) := if (l0.length : Int) = (l1.length : Int) then (laws_pSame.l0 k l0 l1 (l0.length : Int) 0) else (some false)
set_option maxHeartbeats 8000000 in
set_option maxRecDepth 100000 in
theorem laws_pSame.calls (k : Nat) (A0 : Option Addr) (c0 : Nat) (l0 : List Int) (A1 : Option Addr) (c1 : Nat) (l1 : List Int) (r : Bool) (w : World) (hr0 : Kd.C (Kd.int .i64) w A0 l0.length l0) (hc0 : l0.length ≤ c0) (hr1 : Kd.C (Kd.int .i64) w A1 l1.length l1) (hc1 : l1.length ≤ c1) (h : laws_pSame.f k l0 l1 = some r) :
 Calls Tryd.prog 56 #[.slice A0 l0.length c0,.slice A1 l1.length c1] w fun e w'=>e = .returned (.bool r) ∧ Drawn0 w w':=by
 have HR0:=A_ hr0;have HC0:=A_ hc0;clear hr0 hc0;have HR1:=A_ hr1;have HC1:=A_ hc1;clear hr1 hc1;have H : (if (l0.length : Int) = (l1.length : Int) then (laws_pSame.l0 k l0 l1 (l0.length : Int) 0) else (some false)) = some r:=h;clear h;by_cases c3 : (l0.length : Int) = (l1.length : Int)
 ·rw [if_pos c3] at H;have c3b0 : ((l0.length : Int) == (l1.length : Int)) = true:=beq_iff_eq.mpr c3;have c3b1 : ((l0.length : Int) != (l1.length : Int)) = false:=bne_eq_false_iff_eq.mpr c3;have c3b2 : (l0.length == l1.length) = true:=by first|simpa using c3|(simp at c3 ⊢;omega)
  clear c3;have H':=A_ H;clear H;go_enter Tryd.func56,Tryd.ntmps56
  go_wp2
  repeat (go_quiet (fail);try go_wp2)
  go_loopg [13] k (fun kq v13 w'=>∃ (x13_1 : Int),v13 = .int .i64 x13_1 ∧ Aside0 (laws_pSame.l0 kq l0 l1 (l0.length : Int) x13_1 = some r) ∧ Aside0 (kq ≤ k) ∧ Drawn0 w w')
  case atStart=>exact ⟨(0),(by first|rfl|(simp;done)|(simp [*];done)),H',⟨Nat.le_refl _⟩,by repeat (first|exact Drawn0.refl _|apply Drawn0.step)⟩
  case round =>
   clear H';try clear c1
   try clear p2
   try clear c3
   try clear c3b0
   try clear c3b1
   try clear c3b2
   obtain ⟨x13_1,rfl,HA,HK1,⟨m1,rfl⟩⟩:=hrel;cases gk with
   | zero=>exact absurd HA.out (by simp [laws_pSame.l0])
   | succ k1 =>
    have H:=HA.out;clear HA;simp only [laws_pSame.l0] at H
    by_cases c4 : x13_1 < (l0.length : Int)
    ·rw [if_pos c4] at H;have c4b0 : decide (x13_1 < (l0.length : Int)) = true:=decide_eq_true c4;clear c4;by_cases c5 : 0 ≤ x13_1
     ·rw [if_pos c5] at H;have c5b0 : decide (0 ≤ x13_1) = true:=decide_eq_true c5;clear c5;by_cases c6 : x13_1 < (l0.length : Int)
      ·rw [if_pos c6] at H;have c6b0 : decide (x13_1 < (l0.length : Int)) = true:=decide_eq_true c6;clear c6;by_cases c7 : x13_1 < (l1.length : Int)
       ·rw [if_pos c7] at H;have c7b0 : decide (x13_1 < (l1.length : Int)) = true:=decide_eq_true c7;clear c7;by_cases c8 : (rd l0 x13_1) = (rd l1 x13_1)
        ·rw [if_pos c8] at H;have c8b0 : ((rd l0 x13_1) == (rd l1 x13_1)) = true:=beq_iff_eq.mpr c8;have c8b1 : ((rd l0 x13_1) != (rd l1 x13_1)) = false:=bne_eq_false_iff_eq.mpr c8;clear c8;have H':=A_ H;clear H;have p1212 : 0 ≤ (x13_1 : Int):=of_decide_eq_true (by first|(with_reducible assumption)|assumption);have q1212 : x13_1 < (l0.length : Int):=of_decide_eq_true (by first|(with_reducible assumption)|assumption);obtain ⟨ad1212,e1212,hx1212_0⟩:=Kd.at_int HR0.out x13_1 p1212 q1212;cases e1212
         replace p1212:=eq_true p1212;replace q1212:=eq_true q1212;have p1213 : 0 ≤ (x13_1 : Int):=of_decide_eq_true (by first|(with_reducible assumption)|assumption);have q1213 : x13_1 < (l1.length : Int):=of_decide_eq_true (by first|(with_reducible assumption)|assumption);obtain ⟨ad1213,e1213,hx1213_0⟩:=Kd.at_int HR1.out x13_1 p1213 q1213;cases e1213
         replace p1213:=eq_true p1213;replace q1213:=eq_true q1213;go_wp2
         repeat (go_quiet (fail);try go_wp2)
         go_roundg k1
         case measure=>have:=HK1.out;omega
         case rel=>exact ⟨(wrap64 (x13_1 + 1)),(by first|rfl|(simp;done)|(simp [*];done)),H',⟨by have:=HK1.out;omega⟩,by repeat (first|exact Drawn0.refl _|apply Drawn0.step)⟩
        ·rw [if_neg c8] at H;have c8b0 : ((rd l0 x13_1) == (rd l1 x13_1)) = false:=beq_eq_false_iff_ne.mpr c8;have c8b1 : ((rd l0 x13_1) != (rd l1 x13_1)) = true:=bne_iff_ne.mpr c8;obtain rfl:=Option.some.inj H;have p1212 : 0 ≤ (x13_1 : Int):=of_decide_eq_true (by first|(with_reducible assumption)|assumption);have q1212 : x13_1 < (l0.length : Int):=of_decide_eq_true (by first|(with_reducible assumption)|assumption);obtain ⟨ad1212,e1212,hx1212_0⟩:=Kd.at_int HR0.out x13_1 p1212 q1212;cases e1212
         replace p1212:=eq_true p1212;replace q1212:=eq_true q1212;have p1213 : 0 ≤ (x13_1 : Int):=of_decide_eq_true (by first|(with_reducible assumption)|assumption);have q1213 : x13_1 < (l1.length : Int):=of_decide_eq_true (by first|(with_reducible assumption)|assumption);obtain ⟨ad1213,e1213,hx1213_0⟩:=Kd.at_int HR1.out x13_1 p1213 q1213;cases e1213
         replace p1213:=eq_true p1213;replace q1213:=eq_true q1213;go_wp2
         repeat (go_quiet (fail);try go_wp2)
         go_ret
         exact ⟨by first|rfl|(simp;done)|(simp [*];done),by repeat (first|exact Drawn0.refl _|apply Drawn0.step)⟩
       ·rw [if_neg c7] at H;exact absurd H (by simp)
      ·rw [if_neg c6] at H;exact absurd H (by simp)
     ·rw [if_neg c5] at H;exact absurd H (by simp)
    ·rw [if_neg c4] at H;have c4b0 : decide (x13_1 < (l0.length : Int)) = false:=decide_eq_false c4;clear c4;obtain rfl:=Option.some.inj H;go_wp2
     repeat (go_quiet (fail);try go_wp2)
     go_ret
     exact ⟨by first|rfl|(simp;done)|(simp [*];done),by repeat (first|exact Drawn0.refl _|apply Drawn0.step)⟩
 ·rw [if_neg c3] at H;have c3b0 : ((l0.length : Int) == (l1.length : Int)) = false:=beq_eq_false_iff_ne.mpr c3;have c3b1 : ((l0.length : Int) != (l1.length : Int)) = true:=bne_iff_ne.mpr c3;have c3b2 : (l0.length == l1.length) = false:=by first|simpa using c3|(simp at c3 ⊢;omega)
  obtain rfl:=Option.some.inj H;go_enter Tryd.func56,Tryd.ntmps56
  go_wp2
  repeat (go_quiet (fail);try go_wp2)
  go_ret
  exact ⟨by first|rfl|(simp;done)|(simp [*];done),by repeat (first|exact Drawn0.refl _|apply Drawn0.step)⟩
def laws_pSameOrder.f (k : Nat) (a0_0 : Int) (l0_1 : List Int) (a1_0 : Int) (l1_1 : List Int) : Option (Bool) := if a0_0 = a1_0 then ((laws_pSame.f k l0_1 l1_1).bind fun t1216 => (some t1216)) else (some false)
set_option maxHeartbeats 8000000 in
set_option maxRecDepth 100000 in
theorem laws_pSameOrder.calls (k : Nat) (a0_0 : Int) (A0_1 : Option Addr) (c0_1 : Nat) (l0_1 : List Int) (a1_0 : Int) (A1_1 : Option Addr) (c1_1 : Nat) (l1_1 : List Int) (r : Bool) (w : World) (hr0_1 : Kd.C (Kd.int .i64) w A0_1 l0_1.length l0_1) (hc0_1 : l0_1.length ≤ c0_1) (hr1_1 : Kd.C (Kd.int .i64) w A1_1 l1_1.length l1_1) (hc1_1 : l1_1.length ≤ c1_1) (h : laws_pSameOrder.f k a0_0 l0_1 a1_0 l1_1 = some r) :
 Calls Tryd.prog 46 #[.agg #[.int .i64 a0_0,.slice A0_1 l0_1.length c0_1],.agg #[.int .i64 a1_0,.slice A1_1 l1_1.length c1_1]] w fun e w'=>e = .returned (.bool r) ∧ Below w.heap.size w w':=by
 have hu28:=Tryd.underlying28;have HR0_1:=A_ hr0_1;have HC0_1:=A_ hc0_1;clear hr0_1 hc0_1;have HR1_1:=A_ hr1_1;have HC1_1:=A_ hc1_1;clear hr1_1 hc1_1;have HB:=A_ (Below.refl w.heap.size w);have H : (if a0_0 = a1_0 then ((laws_pSame.f k l0_1 l1_1).bind fun t1216=>(some t1216)) else (some false)) = some r:=h;clear h;by_cases c3 : a0_0 = a1_0
 ·rw [if_pos c3] at H;have c3b0 : (a0_0 == a1_0) = true:=beq_iff_eq.mpr c3;have c3b1 : (a0_0 != a1_0) = false:=bne_eq_false_iff_eq.mpr c3;clear c3;replace H:=Option.bind_eq_some_iff.mp H;obtain ⟨t1216,A40,H⟩:=H;replace H : (some t1216) = some r:=H;have A4:=A_ A40;clear A40;obtain rfl:=Option.some.inj H;go_enter Tryd.func46,Tryd.ntmps46
  go_wp2_with (first|((with_reducible refine gate_dst (N:=2) rfl ?_);refine box_event ?hg (N:=2) ?hd (cs:=#[.int .i64 a0_0,.slice A0_1 l0_1.length c0_1]) (t:=28) ?hr ?_;(case hd=>rfl);(case hg=>rfl);(case hr=>first|(go_simp;done)|(go_simp;rfl));intro gb1214 hg w5 hbox hb;have BK1214:=A_ (hbox);have GW1214:=A_ ((by rw [hg];exact (below_size bb_) : w.heap.size ≤ gb1214));have GE1214:=A_ ((by rw [hg];exact (below_size bb_) : w.heap.size ≤ gb1214));replace HB:=A_ (below_step bb_ hb);clear hb hbox hg)|((with_reducible refine gate_dst (N:=3) rfl ?_);refine box_event ?hg (N:=3) ?hd (cs:=#[.int .i64 a1_0,.slice A1_1 l1_1.length c1_1]) (t:=28) ?hr ?_;(case hd=>rfl);(case hg=>rfl);(case hr=>first|(go_simp;done)|(go_simp;rfl));intro gb1215 hg w6 hbox hb;have BK1215:=A_ (hbox);have GW1215:=A_ ((by rw [hg];exact (below_size bb_) : w.heap.size ≤ gb1215));have GE1215:=A_ ((by rw [hg];exact (below_size bb_) : w.heap.size ≤ gb1215));replace HB:=A_ (below_step bb_ hb);have NB1214_1215:=A_ ((by rw [hg];exact Nat.ne_of_lt (blk_lt (bl_ BK1214)) : gb1214 ≠ gb1215));have NB1215_1214:=A_ ((by rw [hg];exact Nat.ne_of_gt (blk_lt (bl_ BK1214)) : gb1215 ≠ gb1214));replace BK1214:=bz BK1214 hb;clear hb hbox hg;have hnb7:=NB1214_1215.out;have hnc7:=NB1215_1214.out;have hcz8_0 : w6.cell? ⟨gb1214,0,none⟩ = some (.int .i64 a0_0):=blk_cell BK1214.out 0;have hcz8_1 : w6.cell? ⟨gb1214,1,none⟩ = some (.slice A0_1 l0_1.length c0_1):=blk_cell BK1214.out 1;have hfz8_0:=blk_frozen BK1214.out 0;have hfz8_1:=blk_frozen BK1214.out 1;have hcz9_0 : w6.cell? ⟨gb1215,0,none⟩ = some (.int .i64 a1_0):=blk_cell BK1215.out 0;have hcz9_1 : w6.cell? ⟨gb1215,1,none⟩ = some (.slice A1_1 l1_1.length c1_1):=blk_cell BK1215.out 1;have hfz9_0:=blk_frozen BK1215.out 0;have hfz9_1:=blk_frozen BK1215.out 1)|(go_at_call 56;(with_reducible refine (laws_pSame.calls k _ _ l0_1 _ _ l1_1 t1216 _ ?side1 ?side2 ?side3 ?side4 A4.out).mono ?_);(case side1=>exact cl_ (Kd.C_below HR0_1.out HB.out));(case side2=>exact HC0_1.out);(case side3=>exact cl_ (Kd.C_below HR1_1.out HB.out));(case side4=>exact HC1_1.out);rintro e w' ⟨rfl,⟨nd,rfl⟩⟩))
  go_ret
  exact ⟨by first|rfl|(simp [errW_none,errW_some] <;> rfl)|(simp [*,errW_none,errW_some] <;> rfl),bb_⟩
 ·rw [if_neg c3] at H;have c3b0 : (a0_0 == a1_0) = false:=beq_eq_false_iff_ne.mpr c3;have c3b1 : (a0_0 != a1_0) = true:=bne_iff_ne.mpr c3;obtain rfl:=Option.some.inj H;go_enter Tryd.func46,Tryd.ntmps46
  go_wp2_with (first|((with_reducible refine gate_dst (N:=2) rfl ?_);refine box_event ?hg (N:=2) ?hd (cs:=#[.int .i64 a0_0,.slice A0_1 l0_1.length c0_1]) (t:=28) ?hr ?_;(case hd=>rfl);(case hg=>rfl);(case hr=>first|(go_simp;done)|(go_simp;rfl));intro gb1214 hg w10 hbox hb;have BK1214:=A_ (hbox);have GW1214:=A_ ((by rw [hg];exact (below_size bb_) : w.heap.size ≤ gb1214));have GE1214:=A_ ((by rw [hg];exact (below_size bb_) : w.heap.size ≤ gb1214));replace HB:=A_ (below_step bb_ hb);clear hb hbox hg)|((with_reducible refine gate_dst (N:=3) rfl ?_);refine box_event ?hg (N:=3) ?hd (cs:=#[.int .i64 a1_0,.slice A1_1 l1_1.length c1_1]) (t:=28) ?hr ?_;(case hd=>rfl);(case hg=>rfl);(case hr=>first|(go_simp;done)|(go_simp;rfl));intro gb1215 hg w11 hbox hb;have BK1215:=A_ (hbox);have GW1215:=A_ ((by rw [hg];exact (below_size bb_) : w.heap.size ≤ gb1215));have GE1215:=A_ ((by rw [hg];exact (below_size bb_) : w.heap.size ≤ gb1215));replace HB:=A_ (below_step bb_ hb);have NB1214_1215:=A_ ((by rw [hg];exact Nat.ne_of_lt (blk_lt (bl_ BK1214)) : gb1214 ≠ gb1215));have NB1215_1214:=A_ ((by rw [hg];exact Nat.ne_of_gt (blk_lt (bl_ BK1214)) : gb1215 ≠ gb1214));replace BK1214:=bz BK1214 hb;clear hb hbox hg;have hnb12:=NB1214_1215.out;have hnc12:=NB1215_1214.out;have hcz13_0 : w11.cell? ⟨gb1214,0,none⟩ = some (.int .i64 a0_0):=blk_cell BK1214.out 0;have hcz13_1 : w11.cell? ⟨gb1214,1,none⟩ = some (.slice A0_1 l0_1.length c0_1):=blk_cell BK1214.out 1;have hfz13_0:=blk_frozen BK1214.out 0;have hfz13_1:=blk_frozen BK1214.out 1;have hcz14_0 : w11.cell? ⟨gb1215,0,none⟩ = some (.int .i64 a1_0):=blk_cell BK1215.out 0;have hcz14_1 : w11.cell? ⟨gb1215,1,none⟩ = some (.slice A1_1 l1_1.length c1_1):=blk_cell BK1215.out 1;have hfz14_0:=blk_frozen BK1215.out 0;have hfz14_1:=blk_frozen BK1215.out 1))
  go_ret
  exact ⟨by first|rfl|(simp [errW_none,errW_some] <;> rfl)|(simp [*,errW_none,errW_some] <;> rfl),bb_⟩
def impl_allWithin.l0 : Nat → Int → Int → List Int → Int → Int → Option (Bool)
 | 0,_,_,_,_,_=>none
 | k + 1,x1,x2,x9,x10,x11=>if x11 < x10 then (if 0 ≤ x11 then (if x11 < (x9.length : Int) then ((impl_within.f (rd x9 x11) x1 x2).bind fun t254=>(if t254 = true then (impl_allWithin.l0 k x1 x2 x9 x10 (wrap64 (x11 + 1))) else (some false))) else (none)) else (none)) else (some true)
def impl_allWithin.f (k : Nat) (l0 : List Int) (a1 : Int) (a2 : Int) : Option (Bool) := impl_allWithin.l0 k a1 a2 l0 (l0.length : Int) 0
set_option maxHeartbeats 8000000 in
set_option maxRecDepth 100000 in
theorem impl_allWithin.calls (k : Nat) (A0 : Option Addr) (c0 : Nat) (l0 : List Int) (a1 : Int) (a2 : Int) (r : Bool) (w : World) (hr0 : Kd.C (Kd.int .i64) w A0 l0.length l0) (hc0 : l0.length ≤ c0) (h : impl_allWithin.f k l0 a1 a2 = some r) :
 Calls Tryd.prog 199 #[.slice A0 l0.length c0,.int .i64 a1,.int .i64 a2] w fun e w'=>e = .returned (.bool r) ∧ Drawn0 w w':=by
 have HR0:=A_ hr0;have HC0:=A_ hc0;clear hr0 hc0;have H : (impl_allWithin.l0 k a1 a2 l0 (l0.length : Int) 0) = some r:=h;clear h;have H':=A_ H;clear H;go_enter Tryd.func199,Tryd.ntmps199
 go_wp2
 go_loopg [11] k (fun kq v11 w'=>∃ (x11_1 : Int),v11 = .int .i64 x11_1 ∧ Aside0 (impl_allWithin.l0 kq a1 a2 l0 (l0.length : Int) x11_1 = some r) ∧ Aside0 (kq ≤ k) ∧ Drawn0 w w')
 case atStart=>exact ⟨(0),(by first|rfl|(simp;done)|(simp [*];done)),H',⟨Nat.le_refl _⟩,by repeat (first|exact Drawn0.refl _|apply Drawn0.step)⟩
 case round =>
  clear H';try clear c1
  try clear p2
  obtain ⟨x11_1,rfl,HA,HK1,⟨m1,rfl⟩⟩:=hrel;cases gk with
  | zero => exact absurd HA.out (by simp [impl_allWithin.l0])
  | succ k1 =>
   have H:=HA.out;clear HA;simp only [impl_allWithin.l0] at H
   by_cases c4 : x11_1 < (l0.length : Int)
   ·rw [if_pos c4] at H;have c4b0 : decide (x11_1 < (l0.length : Int)) = true:=decide_eq_true c4;clear c4;by_cases c5 : 0 ≤ x11_1
    ·rw [if_pos c5] at H;have c5b0 : decide (0 ≤ x11_1) = true:=decide_eq_true c5;clear c5;by_cases c6 : x11_1 < (l0.length : Int)
     ·rw [if_pos c6] at H;have c6b0 : decide (x11_1 < (l0.length : Int)) = true:=decide_eq_true c6;clear c6;replace H:=Option.bind_eq_some_iff.mp H;obtain ⟨t254,A70,H⟩:=H;replace H : (if t254 = true then (impl_allWithin.l0 k1 a1 a2 l0 (l0.length : Int) (wrap64 (x11_1 + 1))) else (some false)) = some r:=H;have A7:=A_ A70;clear A70;by_cases c8 : t254 = true
      ·subst c8;have H1 : (impl_allWithin.l0 k1 a1 a2 l0 (l0.length : Int) (wrap64 (x11_1 + 1))) = some r:=by rw [if_pos rfl] at H;exact H
       clear H;have H:=H1;clear H1;have H':=A_ H;clear H;have p253 : 0 ≤ (x11_1 : Int):=of_decide_eq_true (by first|(with_reducible assumption)|assumption);have q253 : x11_1 < (l0.length : Int):=of_decide_eq_true (by first|(with_reducible assumption)|assumption);obtain ⟨ad253,e253,hx253_0⟩:=Kd.at_int HR0.out x11_1 p253 q253;cases e253
       replace p253:=eq_true p253;replace q253:=eq_true q253;go_wp2_with (first|((with_reducible refine gate_callee (f:=121) rfl ?_);refine goesL_ (some 18) rfl rfl Tryd.func121 (by kernel_rfl) rfl #[.int .i64 (rd l0 x11_1),.int .i64 a1,.int .i64 a2] rfl au_ ?_;(with_reducible refine (impl_within.calls (rd l0 x11_1) a1 a2 true _ A7.out).mono ?_);rintro e w' ⟨rfl,⟨nd,rfl⟩⟩;refine ⟨_,rfl,?_⟩))
       go_roundg k1
       case measure=>have:=HK1.out;omega
       case rel=>exact ⟨(wrap64 (x11_1 + 1)),(by first|rfl|(simp;done)|(simp [*];done)),H',⟨by have:=HK1.out;omega⟩,by repeat (first|exact Drawn0.refl _|apply Drawn0.step)⟩
      ·replace c8:=Bool.eq_false_iff.mpr c8;subst c8;have H1 : (some false) = some r:=by rw [if_neg (show ¬ (false = true) by decide)] at H;exact H
       clear H;have H:=H1;clear H1;obtain rfl:=Option.some.inj H;have p253 : 0 ≤ (x11_1 : Int):=of_decide_eq_true (by first|(with_reducible assumption)|assumption);have q253 : x11_1 < (l0.length : Int):=of_decide_eq_true (by first|(with_reducible assumption)|assumption);obtain ⟨ad253,e253,hx253_0⟩:=Kd.at_int HR0.out x11_1 p253 q253;cases e253
       replace p253:=eq_true p253;replace q253:=eq_true q253;go_wp2_with (first|((with_reducible refine gate_callee (f:=121) rfl ?_);refine goesL_ (some 18) rfl rfl Tryd.func121 (by kernel_rfl) rfl #[.int .i64 (rd l0 x11_1),.int .i64 a1,.int .i64 a2] rfl au_ ?_;(with_reducible refine (impl_within.calls (rd l0 x11_1) a1 a2 false _ A7.out).mono ?_);rintro e w' ⟨rfl,⟨nd,rfl⟩⟩;refine ⟨_,rfl,?_⟩))
       go_ret
       exact ⟨by first|rfl|(simp;done)|(simp [*];done),by repeat (first|exact Drawn0.refl _|apply Drawn0.step)⟩
     ·rw [if_neg c6] at H;exact absurd H (by simp)
    ·rw [if_neg c5] at H;exact absurd H (by simp)
   ·rw [if_neg c4] at H;have c4b0 : decide (x11_1 < (l0.length : Int)) = false:=decide_eq_false c4;clear c4;obtain rfl:=Option.some.inj H;go_wp2
    go_ret
    exact ⟨by first|rfl|(simp;done)|(simp [*];done),by repeat (first|exact Drawn0.refl _|apply Drawn0.step)⟩
def impl_IsRelation.f (k : Nat) (a0_0 : Int) (l0_1 : List Int) : Option (Bool) := (impl_within.f a0_0 0 10).bind fun t256 => (if t256 = true then (if (l0_1.length : Int) = a0_0 then (if 0 ≤ a0_0 then ((impl_allWithin.f k l0_1 0 (wrap64 ((shl .i64 1 a0_0) - 1))).bind fun t257 => (some t257)) else (none)) else (some false)) else (some false))
set_option maxHeartbeats 8000000 in
set_option maxRecDepth 100000 in
theorem impl_IsRelation.calls (k : Nat) (a0_0 : Int) (A0_1 : Option Addr) (c0_1 : Nat) (l0_1 : List Int) (r : Bool) (w : World) (hr0_1 : Kd.C (Kd.int .i64) w A0_1 l0_1.length l0_1) (hc0_1 : l0_1.length ≤ c0_1) (h : impl_IsRelation.f k a0_0 l0_1 = some r) :
 Calls Tryd.prog 122 #[.agg #[.int .i64 a0_0,.slice A0_1 l0_1.length c0_1]] w fun e w'=>e = .returned (.bool r) ∧ Below w.heap.size w w':=by
 have hu28:=Tryd.underlying28;have HR0_1:=A_ hr0_1;have HC0_1:=A_ hc0_1;clear hr0_1 hc0_1;have HB:=A_ (Below.refl w.heap.size w);have H : ((impl_within.f a0_0 0 10).bind fun t256=>(if t256 = true then (if (l0_1.length : Int) = a0_0 then (if 0 ≤ a0_0 then ((impl_allWithin.f k l0_1 0 (wrap64 ((shl .i64 1 a0_0) - 1))).bind fun t257=>(some t257)) else (none)) else (some false)) else (some false))) = some r:=h;clear h;replace H:=Option.bind_eq_some_iff.mp H;obtain ⟨t256,A20,H⟩:=H;replace H : (if t256 = true then (if (l0_1.length : Int) = a0_0 then (if 0 ≤ a0_0 then ((impl_allWithin.f k l0_1 0 (wrap64 ((shl .i64 1 a0_0) - 1))).bind fun t257=>(some t257)) else (none)) else (some false)) else (some false)) = some r:=H;have A2:=A_ A20;clear A20;by_cases c3 : t256 = true
 ·subst c3;have H1 : (if (l0_1.length : Int) = a0_0 then (if 0 ≤ a0_0 then ((impl_allWithin.f k l0_1 0 (wrap64 ((shl .i64 1 a0_0) - 1))).bind fun t257=>(some t257)) else (none)) else (some false)) = some r:=by rw [if_pos rfl] at H;exact H
  clear H;have H:=H1;clear H1;by_cases c4 : (l0_1.length : Int) = a0_0
  ·rw [if_pos c4] at H;have c4b0 : ((l0_1.length : Int) == a0_0) = true:=beq_iff_eq.mpr c4;have c4b1 : ((l0_1.length : Int) != a0_0) = false:=bne_eq_false_iff_eq.mpr c4;clear c4;by_cases c5 : 0 ≤ a0_0
   ·rw [if_pos c5] at H;have c5b0:=eq_true c5;have c5b1 : decide (0 ≤ a0_0) = true:=decide_eq_true c5;clear c5;obtain ⟨ji6,hji6⟩ : ∃ j_ : Int,(shl .i64 1 a0_0) = j_:=⟨_,rfl⟩;replace H : ((impl_allWithin.f k l0_1 0 (wrap64 ((ji6) - 1))).bind fun t257=>(some t257)) = some r:=by first|(rw [hji6] at H;exact H)|(simp only [hji6] at H ⊢;exact H)
    (try rw [hji6] at A2);have hji6_ : (IntKind.i64.wrap (1 * 2 ^ min a0_0.toNat 64)) = ji6:=hji6;have hji6z : a0_0 ≤ 64 → (IntKind.i64.wrap (1 * 2 ^ a0_0.toNat)) = ji6:=shl_small hji6;have hji6u : (IntKind.i64.wrap (2 ^ min a0_0.toNat 64)) = ji6:=by have h_:=hji6_;rw [Int.one_mul] at h_;exact h_
    have hji6v : a0_0 ≤ 64 → (IntKind.i64.wrap (2 ^ a0_0.toNat)) = ji6:=fun hle_=>by have h_:=hji6z hle_;rw [Int.one_mul] at h_;exact h_
    have hji6y : (wrap64 (1 * 2 ^ min a0_0.toNat 64)) = ji6:=(i64_w _).symm.trans hji6_;have hji6x : a0_0 ≤ 64 → (wrap64 (1 * 2 ^ a0_0.toNat)) = ji6:=fun h_=>(i64_w _).symm.trans (hji6z h_)
    replace H:=Option.bind_eq_some_iff.mp H;obtain ⟨t257,A70,H⟩:=H;replace H : (some t257) = some r:=H;have A7:=A_ A70;clear A70;obtain rfl:=Option.some.inj H;go_enter Tryd.func122,Tryd.ntmps122
    go_wp2_with (first|((with_reducible refine gate_dst (N:=1) rfl ?_);(try (refine gate_guard (by rfl) ?_;dsimp only));refine box_event ?hg (N:=1) ?hd (cs:=#[.int .i64 a0_0,.slice A0_1 l0_1.length c0_1]) (t:=28) ?hr ?_;(case hd=>rfl);(case hg=>rfl);(case hr=>first|(go_simp;done)|(go_simp;rfl));intro gb255 hg w8 hbox hb;have BK255:=A_ (hbox);have GW255:=A_ ((by rw [hg];exact (below_size bb_) : w.heap.size ≤ gb255));have GE255:=A_ ((by rw [hg];exact (below_size bb_) : w.heap.size ≤ gb255));replace HB:=A_ (below_step bb_ hb);clear hb hbox hg;have hcz9_0 : w8.cell? ⟨gb255,0,none⟩ = some (.int .i64 a0_0):=blk_cell BK255.out 0;have hcz9_1 : w8.cell? ⟨gb255,1,none⟩ = some (.slice A0_1 l0_1.length c0_1):=blk_cell BK255.out 1;have hfz9_0:=blk_frozen BK255.out 0;have hfz9_1:=blk_frozen BK255.out 1)|(go_at_call 121;(with_reducible refine (impl_within.calls a0_0 0 10 true _ A2.out).mono ?_);rintro e w' ⟨rfl,⟨nd,rfl⟩⟩;(try first|exact ⟨rfl,_,World.drewN_drewN _ _ _⟩|exact ⟨rfl,_,Eq.trans (World.drewN_drewN _ _ _) (congrArg (World.drewN _) (Nat.add_assoc _ _ _))⟩))|(go_at_call 199;(with_reducible refine (impl_allWithin.calls k _ _ l0_1 0 (wrap64 ((ji6) - 1)) t257 _ ?side1 ?side2 A7.out).mono ?_);(case side1=>exact cl_ (Kd.C_below HR0_1.out bb_));(case side2=>exact HC0_1.out);rintro e w' ⟨rfl,⟨nd,rfl⟩⟩;(try first|exact ⟨rfl,_,World.drewN_drewN _ _ _⟩|exact ⟨rfl,_,Eq.trans (World.drewN_drewN _ _ _) (congrArg (World.drewN _) (Nat.add_assoc _ _ _))⟩)))
    repeat (go_quiet (first|((with_reducible refine gate_dst (N:=1) rfl ?_);(try (refine gate_guard (by rfl) ?_;dsimp only));refine box_event ?hg (N:=1) ?hd (cs:=#[.int .i64 a0_0,.slice A0_1 l0_1.length c0_1]) (t:=28) ?hr ?_;(case hd=>rfl);(case hg=>rfl);(case hr=>first|(go_simp;done)|(go_simp;rfl));intro gb255 hg w8 hbox hb;have BK255:=A_ (hbox);have GW255:=A_ ((by rw [hg];exact (below_size bb_) : w.heap.size ≤ gb255));have GE255:=A_ ((by rw [hg];exact (below_size bb_) : w.heap.size ≤ gb255));replace HB:=A_ (below_step bb_ hb);clear hb hbox hg;have hcz9_0 : w8.cell? ⟨gb255,0,none⟩ = some (.int .i64 a0_0):=blk_cell BK255.out 0;have hcz9_1 : w8.cell? ⟨gb255,1,none⟩ = some (.slice A0_1 l0_1.length c0_1):=blk_cell BK255.out 1;have hfz9_0:=blk_frozen BK255.out 0;have hfz9_1:=blk_frozen BK255.out 1)|(go_at_call 121;(with_reducible refine (impl_within.calls a0_0 0 10 true _ A2.out).mono ?_);rintro e w' ⟨rfl,⟨nd,rfl⟩⟩;(try first|exact ⟨rfl,_,World.drewN_drewN _ _ _⟩|exact ⟨rfl,_,Eq.trans (World.drewN_drewN _ _ _) (congrArg (World.drewN _) (Nat.add_assoc _ _ _))⟩))|(go_at_call 199;(with_reducible refine (impl_allWithin.calls k _ _ l0_1 0 (wrap64 ((ji6) - 1)) t257 _ ?side1 ?side2 A7.out).mono ?_);(case side1=>exact cl_ (Kd.C_below HR0_1.out bb_));(case side2=>exact HC0_1.out);rintro e w' ⟨rfl,⟨nd,rfl⟩⟩;(try first|exact ⟨rfl,_,World.drewN_drewN _ _ _⟩|exact ⟨rfl,_,Eq.trans (World.drewN_drewN _ _ _) (congrArg (World.drewN _) (Nat.add_assoc _ _ _))⟩)));try go_wp2_with (first|((with_reducible refine gate_dst (N:=1) rfl ?_);(try (refine gate_guard (by rfl) ?_;dsimp only));refine box_event ?hg (N:=1) ?hd (cs:=#[.int .i64 a0_0,.slice A0_1 l0_1.length c0_1]) (t:=28) ?hr ?_;(case hd=>rfl);(case hg=>rfl);(case hr=>first|(go_simp;done)|(go_simp;rfl));intro gb255 hg w8 hbox hb;have BK255:=A_ (hbox);have GW255:=A_ ((by rw [hg];exact (below_size bb_) : w.heap.size ≤ gb255));have GE255:=A_ ((by rw [hg];exact (below_size bb_) : w.heap.size ≤ gb255));replace HB:=A_ (below_step bb_ hb);clear hb hbox hg;have hcz9_0 : w8.cell? ⟨gb255,0,none⟩ = some (.int .i64 a0_0):=blk_cell BK255.out 0;have hcz9_1 : w8.cell? ⟨gb255,1,none⟩ = some (.slice A0_1 l0_1.length c0_1):=blk_cell BK255.out 1;have hfz9_0:=blk_frozen BK255.out 0;have hfz9_1:=blk_frozen BK255.out 1)|(go_at_call 121;(with_reducible refine (impl_within.calls a0_0 0 10 true _ A2.out).mono ?_);rintro e w' ⟨rfl,⟨nd,rfl⟩⟩;(try first|exact ⟨rfl,_,World.drewN_drewN _ _ _⟩|exact ⟨rfl,_,Eq.trans (World.drewN_drewN _ _ _) (congrArg (World.drewN _) (Nat.add_assoc _ _ _))⟩))|(go_at_call 199;(with_reducible refine (impl_allWithin.calls k _ _ l0_1 0 (wrap64 ((ji6) - 1)) t257 _ ?side1 ?side2 A7.out).mono ?_);(case side1=>exact cl_ (Kd.C_below HR0_1.out bb_));(case side2=>exact HC0_1.out);rintro e w' ⟨rfl,⟨nd,rfl⟩⟩;(try first|exact ⟨rfl,_,World.drewN_drewN _ _ _⟩|exact ⟨rfl,_,Eq.trans (World.drewN_drewN _ _ _) (congrArg (World.drewN _) (Nat.add_assoc _ _ _))⟩))))
    go_ret
    exact ⟨by first|rfl|(simp [errW_none,errW_some] <;> rfl)|(simp only [← hji6];first|rfl|(simp [errW_none,errW_some] <;> rfl))|(simp [*,errW_none,errW_some] <;> rfl),bb_⟩
   ·rw [if_neg c5] at H;exact absurd H (by simp)
  ·rw [if_neg c4] at H;have c4b0 : ((l0_1.length : Int) == a0_0) = false:=beq_eq_false_iff_ne.mpr c4;have c4b1 : ((l0_1.length : Int) != a0_0) = true:=bne_iff_ne.mpr c4;obtain rfl:=Option.some.inj H;go_enter Tryd.func122,Tryd.ntmps122
   go_wp2_with (first|((with_reducible refine gate_dst (N:=1) rfl ?_);(try (refine gate_guard (by rfl) ?_;dsimp only));refine box_event ?hg (N:=1) ?hd (cs:=#[.int .i64 a0_0,.slice A0_1 l0_1.length c0_1]) (t:=28) ?hr ?_;(case hd=>rfl);(case hg=>rfl);(case hr=>first|(go_simp;done)|(go_simp;rfl));intro gb255 hg w10 hbox hb;have BK255:=A_ (hbox);have GW255:=A_ ((by rw [hg];exact (below_size bb_) : w.heap.size ≤ gb255));have GE255:=A_ ((by rw [hg];exact (below_size bb_) : w.heap.size ≤ gb255));replace HB:=A_ (below_step bb_ hb);clear hb hbox hg;have hcz11_0 : w10.cell? ⟨gb255,0,none⟩ = some (.int .i64 a0_0):=blk_cell BK255.out 0;have hcz11_1 : w10.cell? ⟨gb255,1,none⟩ = some (.slice A0_1 l0_1.length c0_1):=blk_cell BK255.out 1;have hfz11_0:=blk_frozen BK255.out 0;have hfz11_1:=blk_frozen BK255.out 1)|(go_at_call 121;(with_reducible refine (impl_within.calls a0_0 0 10 true _ A2.out).mono ?_);rintro e w' ⟨rfl,⟨nd,rfl⟩⟩;(try first|exact ⟨rfl,_,World.drewN_drewN _ _ _⟩|exact ⟨rfl,_,Eq.trans (World.drewN_drewN _ _ _) (congrArg (World.drewN _) (Nat.add_assoc _ _ _))⟩)))
   repeat (go_quiet (first|((with_reducible refine gate_dst (N:=1) rfl ?_);(try (refine gate_guard (by rfl) ?_;dsimp only));refine box_event ?hg (N:=1) ?hd (cs:=#[.int .i64 a0_0,.slice A0_1 l0_1.length c0_1]) (t:=28) ?hr ?_;(case hd=>rfl);(case hg=>rfl);(case hr=>first|(go_simp;done)|(go_simp;rfl));intro gb255 hg w10 hbox hb;have BK255:=A_ (hbox);have GW255:=A_ ((by rw [hg];exact (below_size bb_) : w.heap.size ≤ gb255));have GE255:=A_ ((by rw [hg];exact (below_size bb_) : w.heap.size ≤ gb255));replace HB:=A_ (below_step bb_ hb);clear hb hbox hg;have hcz11_0 : w10.cell? ⟨gb255,0,none⟩ = some (.int .i64 a0_0):=blk_cell BK255.out 0;have hcz11_1 : w10.cell? ⟨gb255,1,none⟩ = some (.slice A0_1 l0_1.length c0_1):=blk_cell BK255.out 1;have hfz11_0:=blk_frozen BK255.out 0;have hfz11_1:=blk_frozen BK255.out 1)|(go_at_call 121;(with_reducible refine (impl_within.calls a0_0 0 10 true _ A2.out).mono ?_);rintro e w' ⟨rfl,⟨nd,rfl⟩⟩;(try first|exact ⟨rfl,_,World.drewN_drewN _ _ _⟩|exact ⟨rfl,_,Eq.trans (World.drewN_drewN _ _ _) (congrArg (World.drewN _) (Nat.add_assoc _ _ _))⟩)));try go_wp2_with (first|((with_reducible refine gate_dst (N:=1) rfl ?_);(try (refine gate_guard (by rfl) ?_;dsimp only));refine box_event ?hg (N:=1) ?hd (cs:=#[.int .i64 a0_0,.slice A0_1 l0_1.length c0_1]) (t:=28) ?hr ?_;(case hd=>rfl);(case hg=>rfl);(case hr=>first|(go_simp;done)|(go_simp;rfl));intro gb255 hg w10 hbox hb;have BK255:=A_ (hbox);have GW255:=A_ ((by rw [hg];exact (below_size bb_) : w.heap.size ≤ gb255));have GE255:=A_ ((by rw [hg];exact (below_size bb_) : w.heap.size ≤ gb255));replace HB:=A_ (below_step bb_ hb);clear hb hbox hg;have hcz11_0 : w10.cell? ⟨gb255,0,none⟩ = some (.int .i64 a0_0):=blk_cell BK255.out 0;have hcz11_1 : w10.cell? ⟨gb255,1,none⟩ = some (.slice A0_1 l0_1.length c0_1):=blk_cell BK255.out 1;have hfz11_0:=blk_frozen BK255.out 0;have hfz11_1:=blk_frozen BK255.out 1)|(go_at_call 121;(with_reducible refine (impl_within.calls a0_0 0 10 true _ A2.out).mono ?_);rintro e w' ⟨rfl,⟨nd,rfl⟩⟩;(try first|exact ⟨rfl,_,World.drewN_drewN _ _ _⟩|exact ⟨rfl,_,Eq.trans (World.drewN_drewN _ _ _) (congrArg (World.drewN _) (Nat.add_assoc _ _ _))⟩))))
   go_ret
   exact ⟨by first|rfl|(simp [errW_none,errW_some] <;> rfl)|(simp [*,errW_none,errW_some] <;> rfl),bb_⟩
 ·replace c3:=Bool.eq_false_iff.mpr c3;subst c3;have H1 : (some false) = some r:=by rw [if_neg (show ¬ (false = true) by decide)] at H;exact H
  clear H;have H:=H1;clear H1;obtain rfl:=Option.some.inj H;go_enter Tryd.func122,Tryd.ntmps122
  go_wp2_with (first|((with_reducible refine gate_dst (N:=1) rfl ?_);(try (refine gate_guard (by rfl) ?_;dsimp only));refine box_event ?hg (N:=1) ?hd (cs:=#[.int .i64 a0_0,.slice A0_1 l0_1.length c0_1]) (t:=28) ?hr ?_;(case hd=>rfl);(case hg=>rfl);(case hr=>first|(go_simp;done)|(go_simp;rfl));intro gb255 hg w12 hbox hb;have BK255:=A_ (hbox);have GW255:=A_ ((by rw [hg];exact (below_size bb_) : w.heap.size ≤ gb255));have GE255:=A_ ((by rw [hg];exact (below_size bb_) : w.heap.size ≤ gb255));replace HB:=A_ (below_step bb_ hb);clear hb hbox hg;have hcz13_0 : w12.cell? ⟨gb255,0,none⟩ = some (.int .i64 a0_0):=blk_cell BK255.out 0;have hcz13_1 : w12.cell? ⟨gb255,1,none⟩ = some (.slice A0_1 l0_1.length c0_1):=blk_cell BK255.out 1;have hfz13_0:=blk_frozen BK255.out 0;have hfz13_1:=blk_frozen BK255.out 1)|(go_at_call 121;(with_reducible refine (impl_within.calls a0_0 0 10 false _ A2.out).mono ?_);rintro e w' ⟨rfl,⟨nd,rfl⟩⟩;(try first|exact ⟨rfl,_,World.drewN_drewN _ _ _⟩|exact ⟨rfl,_,Eq.trans (World.drewN_drewN _ _ _) (congrArg (World.drewN _) (Nat.add_assoc _ _ _))⟩)))
  repeat (go_quiet (first|((with_reducible refine gate_dst (N:=1) rfl ?_);(try (refine gate_guard (by rfl) ?_;dsimp only));refine box_event ?hg (N:=1) ?hd (cs:=#[.int .i64 a0_0,.slice A0_1 l0_1.length c0_1]) (t:=28) ?hr ?_;(case hd=>rfl);(case hg=>rfl);(case hr=>first|(go_simp;done)|(go_simp;rfl));intro gb255 hg w12 hbox hb;have BK255:=A_ (hbox);have GW255:=A_ ((by rw [hg];exact (below_size bb_) : w.heap.size ≤ gb255));have GE255:=A_ ((by rw [hg];exact (below_size bb_) : w.heap.size ≤ gb255));replace HB:=A_ (below_step bb_ hb);clear hb hbox hg;have hcz13_0 : w12.cell? ⟨gb255,0,none⟩ = some (.int .i64 a0_0):=blk_cell BK255.out 0;have hcz13_1 : w12.cell? ⟨gb255,1,none⟩ = some (.slice A0_1 l0_1.length c0_1):=blk_cell BK255.out 1;have hfz13_0:=blk_frozen BK255.out 0;have hfz13_1:=blk_frozen BK255.out 1)|(go_at_call 121;(with_reducible refine (impl_within.calls a0_0 0 10 false _ A2.out).mono ?_);rintro e w' ⟨rfl,⟨nd,rfl⟩⟩;(try first|exact ⟨rfl,_,World.drewN_drewN _ _ _⟩|exact ⟨rfl,_,Eq.trans (World.drewN_drewN _ _ _) (congrArg (World.drewN _) (Nat.add_assoc _ _ _))⟩)));try go_wp2_with (first|((with_reducible refine gate_dst (N:=1) rfl ?_);(try (refine gate_guard (by rfl) ?_;dsimp only));refine box_event ?hg (N:=1) ?hd (cs:=#[.int .i64 a0_0,.slice A0_1 l0_1.length c0_1]) (t:=28) ?hr ?_;(case hd=>rfl);(case hg=>rfl);(case hr=>first|(go_simp;done)|(go_simp;rfl));intro gb255 hg w12 hbox hb;have BK255:=A_ (hbox);have GW255:=A_ ((by rw [hg];exact (below_size bb_) : w.heap.size ≤ gb255));have GE255:=A_ ((by rw [hg];exact (below_size bb_) : w.heap.size ≤ gb255));replace HB:=A_ (below_step bb_ hb);clear hb hbox hg;have hcz13_0 : w12.cell? ⟨gb255,0,none⟩ = some (.int .i64 a0_0):=blk_cell BK255.out 0;have hcz13_1 : w12.cell? ⟨gb255,1,none⟩ = some (.slice A0_1 l0_1.length c0_1):=blk_cell BK255.out 1;have hfz13_0:=blk_frozen BK255.out 0;have hfz13_1:=blk_frozen BK255.out 1)|(go_at_call 121;(with_reducible refine (impl_within.calls a0_0 0 10 false _ A2.out).mono ?_);rintro e w' ⟨rfl,⟨nd,rfl⟩⟩;(try first|exact ⟨rfl,_,World.drewN_drewN _ _ _⟩|exact ⟨rfl,_,Eq.trans (World.drewN_drewN _ _ _) (congrArg (World.drewN _) (Nat.add_assoc _ _ _))⟩))))
  go_ret
  exact ⟨by first|rfl|(simp [errW_none,errW_some] <;> rfl)|(simp [*,errW_none,errW_some] <;> rfl),bb_⟩
def bits_TrailingZeros64.f (a0 : Int) : Option Int := if 0 ≤ a0 ∧ a0 < 18446744073709551616 then some ((Lib.ctz 64 a0.toNat : Nat) : Int) else none
set_option maxHeartbeats 1000000 in
theorem tz64_core (x k idx : Nat) (w : World) (hx0 : ((x : Int) == 0) = false)
 (key : IntKind.u64.wrap (bits BinOp.and IntKind.u64 (x : Int) (IntKind.u64.wrap (-(x : Int))) * 285870213051353865) / 288230376151711744 = (idx : Int))
 (hi : idx < 64) (hk : k < 64) (hcell : w.cell? ⟨1,idx,none⟩ = some (.int .u8 k)) :
 Calls Tryd.prog 238 #[.int .u64 x] w fun e w'=>e = .returned (.int .i64 k) ∧ w = w':=by
 go_enter Tryd.func238,Tryd.ntmps238
 go_wp2_with (simp only [key])
 go_ret
 exact ⟨rfl,rfl⟩
theorem tz64_zero (w : World) :
 Calls Tryd.prog 238 #[.int .u64 0] w fun e w'=>e = .returned (.int .i64 64) ∧ w = w':=by
 go_enter Tryd.func238,Tryd.ntmps238
 go_wp2
 go_ret
 exact ⟨rfl,rfl⟩
theorem bits_TrailingZeros64.calls (a0 : Int) (r : Int) (w : World) (hT : TabOK w) (h : bits_TrailingZeros64.f a0 = some r) :
 Calls Tryd.prog 238 #[.int .u64 a0] w fun e w'=>e = .returned (.int .i64 r) ∧ Drawn0 w w':=by
 unfold bits_TrailingZeros64.f at h
 split at h
 ·rename_i hb
  obtain ⟨x,rfl⟩:=Int.eq_ofNat_of_zero_le hb.1;injection h with h;subst h;rw [Int.toNat_natCast];by_cases hx0 : x = 0
  ·subst hx0;refine (tz64_zero w).mono ?_
   rintro e w' ⟨rfl,rfl⟩
   exact ⟨rfl,Drawn0.refl _⟩
  ·obtain ⟨hlow,hk⟩:=Lib.lowest_bit 64 x hx0 (by omega);obtain ⟨hi,htab⟩:=Lib.deBruijn64_at _ hk;have hcell:=hT _ hi;rw [htab] at hcell;refine (tz64_core x _ _ w (by simp;omega) (tz64_key x _ (by omega) hx0 hlow) hi hk hcell).mono ?_
   rintro e w' ⟨rfl,rfl⟩
   exact ⟨rfl,Drawn0.refl _⟩
 ·cases h
def bits_TrailingZeros.f (a0 : Int) : Option (Int) := (bits_TrailingZeros64.f a0).bind fun t258 => (some t258)
set_option maxHeartbeats 8000000 in
set_option maxRecDepth 100000 in
theorem bits_TrailingZeros.calls (a0 : Int) (r : Int) (w : World) (hT : TabOK w) (h : bits_TrailingZeros.f a0 = some r) :
 Calls Tryd.prog 200 #[.int .u64 a0] w fun e w'=>e = .returned (.int .i64 r) ∧ Drawn0 w w':=by
 have HT:=A_ hT;clear hT;have H : ((bits_TrailingZeros64.f a0).bind fun t258=>(some t258)) = some r:=h;clear h;replace H:=Option.bind_eq_some_iff.mp H;obtain ⟨t258,A20,H⟩:=H;replace H : (some t258) = some r:=H;have A2:=A_ A20;clear A20;obtain rfl:=Option.some.inj H;go_enter Tryd.func200,Tryd.ntmps200
 go_wp2_with (first|((with_reducible refine gate_callee (f:=238) rfl ?_);refine goesL_ (some 7) rfl rfl Tryd.func238 (by kernel_rfl) rfl #[.int .u64 a0] rfl au_ ?_;(with_reducible refine (bits_TrailingZeros64.calls a0 t258 _ ?side1 A2.out).mono ?_);(case side1=>first|exact HT.out|(repeat (first|exact HT.out|apply TabOK.drewN|apply TabOK.drew|apply TabOK.alloc)));rintro e w' ⟨rfl,⟨nd,rfl⟩⟩;refine ⟨_,rfl,?_⟩))
 go_ret
 exact ⟨by first|rfl|(simp;done)|(simp [*];done),by repeat (first|exact Drawn0.refl _|apply Drawn0.step)⟩
def impl_members.l0 : Nat → Int → List Int → Option (List Int)
 | 0,_,_=>none
 | k + 1,x0,x3=>if x0 = 0 then (some x3) else ((bits_TrailingZeros.f (IntKind.u64.wrap (x0))).bind fun t262=>(if x3.length < 17592186044416 then (impl_members.l0 k (Go.bits .and .i64 x0 (wrap64 (x0 - 1))) (x3 ++ [t262])) else (none)))
def impl_members.f (k : Nat) (a0 : Int) : Option (List Int) := impl_members.l0 k a0 (([] : List Int))
set_option maxHeartbeats 8000000 in
set_option maxRecDepth 100000 in
theorem impl_members.calls (k : Nat) (a0 : Int) (r : List Int) (w : World) (hT : TabOK w) (h : impl_members.f k a0 = some r) :
 Calls Tryd.prog 124 #[.int .i64 a0] w fun e w'=>∃ v0_ : Value,e = .returned (v0_) ∧ Kd.R (Kd.int .i64) 3 w' w.heap.size (fun _=>True) v0_ r ∧ Below w.heap.size w w':=by
 have HT:=A_ hT;clear hT;have HB:=A_ (Below.refl w.heap.size w);have H : (impl_members.l0 k a0 (([] : List Int))) = some r:=h;clear h;obtain ⟨y259,hy259⟩ : ∃ y_ : List Int,y_ = (([] : List Int)):=⟨_,rfl⟩;replace H : (impl_members.l0 k a0 y259) = some r:=by first|(rw [hy259];with_reducible exact H)|(have H2_:=(Option.bind_some _ _).symm.trans H;rw [hy259];with_reducible exact H2_)|(have H2_:=(Option.bind_some _ _).symm.trans H;with_reducible exact H2_)|with_reducible exact H|(rw [hy259];exact H)|exact H
 have Ny259:=A_ hy259;clear hy259;have H':=A_ H;clear H;go_enter Tryd.func124,Tryd.ntmps124
 go_wp2_with (first|((with_reducible refine gate_dst (N:=4) rfl ?_);refine Kd.R_lit (Kd.int .i64) _ 3 ?hg (N:=4) ?hd (xs:=([] : List Int)) (inner:=[]) (ok:=fun _=>True) (okp:=fun _=>True) ?hr ?hp (fun _ hk=>hk) trivial (Below.refl _ _) (Nat.le_refl _) (by simp) ?_;(case hd=>rfl);(case hg=>rfl);(case hr=>first|(go_simp;done)|(go_simp;rfl));(case hp=>exact (Reps.none _ _));intro v260 w2 ho3 hb hg_ hnew_;clear hg_ hnew_;(first|rw [← Ny259.out] at ho3|(simp only [Int.reduceToNat] at ho3;rw [← Ny259.out] at ho3));have HO261:=A_ (Kd.R_lower ho3 (below_size bb_));replace HB:=A_ (below_step bb_ hb);clear hb ho3))
 go_loopg [0,3] k (fun kq v0 v3 w'=>∃ (x0_1 : Int) (x3_1 : List Int),v0 = .int .i64 x0_1 ∧ Aside0 (impl_members.l0 kq x0_1 x3_1 = some r) ∧ Aside0 (kq ≤ k) ∧ Aside0 (Kd.R (Kd.int .i64) 3 w' w.heap.size (fun _=>True) v3 x3_1) ∧ Aside0 (Below w.heap.size w w'))
 case atStart=>exact ⟨(a0),(y259),(by first|rfl|(simp;done)|(simp [*];done)),H',⟨Nat.le_refl _⟩,⟨by (with_reducible repeat (first|apply Kd.R_alloc|apply Kd.R_drewN|apply Kd.R_drew));exact HO261.out⟩,⟨bb_⟩⟩
 case round =>
  clear H';try clear c1
  try clear p2
  obtain ⟨x0_1,x3_1,rfl,HA,HK1,HO_3,HB⟩:=hrel;cases gk with
  | zero => exact absurd HA.out (by simp [impl_members.l0])
  | succ k1 =>
   have H:=HA.out;clear HA;simp only [impl_members.l0] at H
   by_cases c4 : x0_1 = 0
   ·rw [if_pos c4] at H;have c4b0 : (x0_1 == 0) = true:=beq_iff_eq.mpr c4;have c4b1 : (x0_1 != 0) = false:=bne_eq_false_iff_eq.mpr c4;clear c4;obtain rfl:=Option.some.inj H;go_wp2
    go_ret
    exact ⟨_,by first|rfl|(simp [errW_none,errW_some] <;> rfl)|(simp [*,errW_none,errW_some] <;> rfl),by (with_reducible repeat (first|apply Kd.R_alloc|apply Kd.R_drewN|apply Kd.R_drew));exact HO_3.out,bb_⟩
   ·rw [if_neg c4] at H;have c4b0 : (x0_1 == 0) = false:=beq_eq_false_iff_ne.mpr c4;have c4b1 : (x0_1 != 0) = true:=bne_iff_ne.mpr c4;replace H:=Option.bind_eq_some_iff.mp H;obtain ⟨t262,A50,H⟩:=H;replace H : (if x3_1.length < 17592186044416 then (impl_members.l0 k1 (Go.bits .and .i64 x0_1 (wrap64 (x0_1 - 1))) (x3_1 ++ [t262])) else (none)) = some r:=H;have A5:=A_ A50;clear A50;by_cases c6 : x3_1.length < 17592186044416
    ·rw [if_pos c6] at H;have LMc6:=A_ c6;clear c6;obtain ⟨y263,hy263⟩ : ∃ y_ : List Int,y_ = (x3_1 ++ [t262]):=⟨_,rfl⟩;replace H : (impl_members.l0 k1 (Go.bits .and .i64 x0_1 (wrap64 (x0_1 - 1))) y263) = some r:=by first|(rw [hy263];with_reducible exact H)|(have H2_:=(Option.bind_some _ _).symm.trans H;rw [hy263];with_reducible exact H2_)|(have H2_:=(Option.bind_some _ _).symm.trans H;with_reducible exact H2_)|with_reducible exact H|(rw [hy263];exact H)|exact H
     have Ny263:=A_ hy263;clear hy263;have H':=A_ H;clear H;go_wp2_with (first|((with_reducible refine gate_callee (f:=200) rfl ?_);refine goesL_ (some 14) rfl rfl Tryd.func200 (by kernel_rfl) rfl #[.int .u64 (IntKind.u64.wrap (x0_1))] rfl au_ ?_;(with_reducible refine (bits_TrailingZeros.calls (IntKind.u64.wrap (x0_1)) t262 _ ?side1 A5.out).mono ?_);(case side1=>first|exact HT.out|exact HT.out.below bb_|(repeat (first|exact HT.out|apply TabOK.drewN|apply TabOK.drew|apply TabOK.alloc)));rintro e w' ⟨rfl,⟨nd,rfl⟩⟩;refine ⟨_,rfl,?_⟩)|((with_reducible refine gate_builtin (b:=.append) (xs:=#[.tmp 11,.tmp 15]) rfl ?_);at_builtin;refine Kd.R_append (Kd.int .i64) (w0:=w) w.heap.size rfl (.tmp 11) (.tmp 15) 22 3 (.int .i64 0) 8 rfl Tryd.underlying22 info3 rfl (by decide) (by omega) u3 x3_1 t262 [.int .i64 t262] (fun _=>True) (fun _=>False) rfl rfl ?aP (fun _ hk=>hk.elim) ?aF ?aO ?aB ?aS ?aL ?_;(case aP=>exact rfl);(case aB=>exact bb_);(case aF=>exact (fun _ _=>trivial));(case aO=>exact (rl_ HO_3));(case aS=>exact (below_size bb_));(case aL=>have:=LMc6.out;omega);intro v264 w7 ho hb hg hat;rw [← Ny263.out] at ho;replace HB:=A_ (hb);have HO265:=A_ (ho);clear HO_3;clear ho hb hg hat))
     go_roundg k1
     case measure=>have:=HK1.out;omega
     case rel=>exact ⟨(Go.bits .and .i64 x0_1 (wrap64 (x0_1 - 1))),(y263),(by first|rfl|(simp;done)|(simp [*];done)),H',⟨by have:=HK1.out;omega⟩,⟨by (with_reducible repeat (first|apply Kd.R_alloc|apply Kd.R_drewN|apply Kd.R_drew));exact HO265.out⟩,⟨bb_⟩⟩
    ·rw [if_neg c6] at H;exact absurd H (by simp)
def impl_Order_better.f (a0_0 : Int) (l0_1 : List Int) (a1 : Int) (a2 : Int) : Option (Bool) := if 0 ≤ a1 then (if a1 < (l0_1.length : Int) then (if 0 ≤ a2 then (some ((Go.bits .and .i64 (shr .i64 (rd l0_1 a1) a2) 1) == 1)) else (none)) else (none)) else (none)
set_option maxHeartbeats 8000000 in
set_option maxRecDepth 100000 in
theorem impl_Order_better.calls (a0_0 : Int) (A0_1 : Option Addr) (c0_1 : Nat) (l0_1 : List Int) (a1 : Int) (a2 : Int) (r : Bool) (w : World) (hr0_1 : Kd.C (Kd.int .i64) w A0_1 l0_1.length l0_1) (hc0_1 : l0_1.length ≤ c0_1) (h : impl_Order_better.f a0_0 l0_1 a1 a2 = some r) :
 Calls Tryd.prog 146 #[.agg #[.int .i64 a0_0,.slice A0_1 l0_1.length c0_1],.int .i64 a1,.int .i64 a2] w fun e w'=>e = .returned (.bool r) ∧ Below w.heap.size w w':=by
 have hu28:=Tryd.underlying28;have HR0_1:=A_ hr0_1;have HC0_1:=A_ hc0_1;clear hr0_1 hc0_1;have HB:=A_ (Below.refl w.heap.size w);have H : (if 0 ≤ a1 then (if a1 < (l0_1.length : Int) then (if 0 ≤ a2 then (some ((Go.bits .and .i64 (shr .i64 (rd l0_1 a1) a2) 1) == 1)) else (none)) else (none)) else (none)) = some r:=h;clear h;by_cases c4 : 0 ≤ a1
 ·rw [if_pos c4] at H;have c4b0 : decide (0 ≤ a1) = true:=decide_eq_true c4;clear c4;by_cases c5 : a1 < (l0_1.length : Int)
  ·rw [if_pos c5] at H;have c5b0 : decide (a1 < (l0_1.length : Int)) = true:=decide_eq_true c5;clear c5;by_cases c6 : 0 ≤ a2
   ·rw [if_pos c6] at H;have c6b0:=eq_true c6;have c6b1 : decide (0 ≤ a2) = true:=decide_eq_true c6;clear c6;obtain ⟨ji7,hji7⟩ : ∃ j_ : Int,(shr .i64 (rd l0_1 a1) a2) = j_:=⟨_,rfl⟩;replace H : (some ((Go.bits .and .i64 (ji7) 1) == 1)) = some r:=by first|(rw [hji7] at H;exact H)|(simp only [hji7] at H ⊢;exact H)
    have hji7_ : ((rd l0_1 a1) / 2 ^ min a2.toNat 64) = ji7:=hji7;have hji7z : a2 ≤ 64 → ((rd l0_1 a1) / 2 ^ a2.toNat) = ji7:=shr_small hji7;obtain rfl:=Option.some.inj H;go_enter Tryd.func146,Tryd.ntmps146
    go_wp2_with (first|((with_reducible refine gate_dst (N:=3) rfl ?_);refine box_event ?hg (N:=3) ?hd (cs:=#[.int .i64 a0_0,.slice A0_1 l0_1.length c0_1]) (t:=28) ?hr ?_;(case hd=>rfl);(case hg=>rfl);(case hr=>first|(go_simp;done)|(go_simp;rfl));intro gb266 hg w8 hbox hb;have BK266:=A_ (hbox);have GW266:=A_ ((by rw [hg];exact (below_size bb_) : w.heap.size ≤ gb266));have GE266:=A_ ((by rw [hg];exact (below_size bb_) : w.heap.size ≤ gb266));replace HB:=A_ (below_step bb_ hb);clear hb hbox hg;have hcz9_0 : w8.cell? ⟨gb266,0,none⟩ = some (.int .i64 a0_0):=blk_cell BK266.out 0;have hcz9_1 : w8.cell? ⟨gb266,1,none⟩ = some (.slice A0_1 l0_1.length c0_1):=blk_cell BK266.out 1;have hfz9_0:=blk_frozen BK266.out 0;have hfz9_1:=blk_frozen BK266.out 1;have p267 : 0 ≤ (a1 : Int):=of_decide_eq_true (by first|(with_reducible assumption)|assumption);have q267 : a1 < (l0_1.length : Int):=of_decide_eq_true (by first|(with_reducible assumption)|assumption);obtain ⟨ad267,e267,hx267_0⟩:=Kd.at_int HR0_1.out a1 p267 q267;cases e267;(try replace hx267_0:=(HB.out.cell (World.block_lt_of_cell? w _ hx267_0)).trans hx267_0);replace p267:=eq_true p267;replace q267:=eq_true q267))
    go_ret
    exact ⟨by first|rfl|(simp [errW_none,errW_some] <;> rfl)|(simp only [← hji7];first|rfl|(simp [errW_none,errW_some] <;> rfl))|(simp [*,errW_none,errW_some] <;> rfl),bb_⟩
   ·rw [if_neg c6] at H;exact absurd H (by simp)
  ·rw [if_neg c5] at H;exact absurd H (by simp)
 ·rw [if_neg c4] at H;exact absurd H (by simp)
mutual
def impl_IsOrder.l0 : Nat → List Int → Int → Int → Int → List Int → Option (Bool)
 | 0,_,_,_,_,_=>none
 | k + 1,x11,x12,x13,x269000,x269001=>if x13 < x12 then (if 0 ≤ x13 then (if x13 < (x11.length : Int) then ((impl_Order_better.f x269000 x269001 x13 x13).bind fun t271=>(if t271 = true then (some false) else ((impl_members.f k (rd x11 x13)).bind fun t272=>(impl_IsOrder.l1 k (rd x11 x13) x11 x12 x13 t272 (t272.length : Int) 0 x269000 x269001)))) else (none)) else (none)) else (some true)
def impl_IsOrder.l1 : Nat → Int → List Int → Int → Int → List Int → Int → Int → Int → List Int → Option (Bool)
 | 0,_,_,_,_,_,_,_,_,_=>none
 | k + 1,x4,x11,x12,x13,x23,x24,x25,x269000,x269001=>if x25 < x24 then (if 0 ≤ x25 then (if x25 < (x23.length : Int) then (if 0 ≤ (rd x23 x25) then (if (rd x23 x25) < (x269001.length : Int) then (if (Go.bits .andNot .i64 (rd x269001 (rd x23 x25)) x4) = 0 then (impl_IsOrder.l1 k x4 x11 x12 x13 x23 x24 (wrap64 (x25 + 1)) x269000 x269001) else (some false)) else (none)) else (none)) else (none)) else (none)) else (impl_IsOrder.l0 k x11 x12 (wrap64 (x13 + 1)) x269000 x269001)
end
def impl_IsOrder.f (k : Nat) (a0_0 : Int) (l0_1 : List Int) : Option (Bool) := (impl_IsRelation.f k a0_0 l0_1).bind fun t269 => (if t269 = true then (impl_IsOrder.l0 k l0_1 (l0_1.length : Int) 0 a0_0 l0_1) else (some false))
set_option maxHeartbeats 8000000 in
set_option maxRecDepth 100000 in
theorem impl_IsOrder.calls (k : Nat) (a0_0 : Int) (A0_1 : Option Addr) (c0_1 : Nat) (l0_1 : List Int) (r : Bool) (w : World) (hr0_1 : Kd.C (Kd.int .i64) w A0_1 l0_1.length l0_1) (hc0_1 : l0_1.length ≤ c0_1) (hT : TabOK w) (h : impl_IsOrder.f k a0_0 l0_1 = some r) :
 Calls Tryd.prog 61 #[.agg #[.int .i64 a0_0,.slice A0_1 l0_1.length c0_1]] w fun e w'=>e = .returned (.bool r) ∧ Below w.heap.size w w':=by
 have hu28:=Tryd.underlying28;have HT:=A_ hT;clear hT;have HR0_1:=A_ hr0_1;have HC0_1:=A_ hc0_1;clear hr0_1 hc0_1;have HB:=A_ (Below.refl w.heap.size w);have H : ((impl_IsRelation.f k a0_0 l0_1).bind fun t269=>(if t269 = true then (impl_IsOrder.l0 k l0_1 (l0_1.length : Int) 0 a0_0 l0_1) else (some false))) = some r:=h;clear h;replace H:=Option.bind_eq_some_iff.mp H;obtain ⟨t269,A20,H⟩:=H;replace H : (if t269 = true then (impl_IsOrder.l0 k l0_1 (l0_1.length : Int) 0 a0_0 l0_1) else (some false)) = some r:=H;have A2:=A_ A20;clear A20;by_cases c3 : t269 = true
 ·subst c3;have H1 : (impl_IsOrder.l0 k l0_1 (l0_1.length : Int) 0 a0_0 l0_1) = some r:=by rw [if_pos rfl] at H;exact H
  clear H;have H:=H1;clear H1;have H':=A_ H;clear H;go_enter Tryd.func61,Tryd.ntmps61
  go_wp2_with (first|((with_reducible refine gate_dst (N:=1) rfl ?_);refine box_event ?hg (N:=1) ?hd (cs:=#[.int .i64 a0_0,.slice A0_1 l0_1.length c0_1]) (t:=28) ?hr ?_;(case hd=>rfl);(case hg=>rfl);(case hr=>first|(go_simp;done)|(go_simp;rfl));intro gb268 hg w4 hbox hb;have BK268:=A_ (hbox);have GW268:=A_ ((by rw [hg];exact (below_size bb_) : w.heap.size ≤ gb268));have GE268:=A_ ((by rw [hg];exact (below_size bb_) : w.heap.size ≤ gb268));replace HB:=A_ (below_step bb_ hb);clear hb hbox hg;have hcz5_0 : w4.cell? ⟨gb268,0,none⟩ = some (.int .i64 a0_0):=blk_cell BK268.out 0;have hcz5_1 : w4.cell? ⟨gb268,1,none⟩ = some (.slice A0_1 l0_1.length c0_1):=blk_cell BK268.out 1;have hfz5_0:=blk_frozen BK268.out 0;have hfz5_1:=blk_frozen BK268.out 1)|((with_reducible refine gate_callee (f:=122) rfl ?_);refine goesL_ (some 8) rfl rfl Tryd.func122 (by kernel_rfl) rfl #[.agg #[.int .i64 a0_0,.slice A0_1 l0_1.length c0_1]] rfl au_ ?_;(with_reducible refine (impl_IsRelation.calls k a0_0 _ _ l0_1 true _ ?side1 ?side2 A2.out).mono ?_);(case side1=>exact cl_ (Kd.C_below HR0_1.out HB.out));(case side2=>exact HC0_1.out);rintro e w6 ⟨rfl,hb⟩;refine ⟨_,rfl,?_⟩;replace BK268:=bz BK268 hb;replace HB:=A_ (below_step bb_ hb);(try clear hb);(try clear hb2);(try clear hk);(try clear hi);have hcz7_0 : w6.cell? ⟨gb268,0,none⟩ = some (.int .i64 a0_0):=blk_cell BK268.out 0;have hcz7_1 : w6.cell? ⟨gb268,1,none⟩ = some (.slice A0_1 l0_1.length c0_1):=blk_cell BK268.out 1;have hfz7_0:=blk_frozen BK268.out 0;have hfz7_1:=blk_frozen BK268.out 1))
  go_loopg [13] k (fun kq v13 w'=>∃ (x13_1 : Int),v13 = .int .i64 x13_1 ∧ Aside0 (impl_IsOrder.l0 kq l0_1 (l0_1.length : Int) x13_1 a0_0 l0_1 = some r) ∧ Aside0 (kq ≤ k) ∧ Aside0 (w'.heap[gb268]? = some (.cells #[.int .i64 a0_0,(.slice A0_1 l0_1.length c0_1)] 28 (0,0))) ∧ Aside0 (Below w.heap.size w w'))
  case atStart=>exact ⟨(0),(by first|rfl|(simp;done)|(simp [*];done)),H',⟨Nat.le_refl _⟩,⟨bl_ BK268⟩,⟨bb_⟩⟩
  case round =>
   clear H';try clear c1
   try clear p2
   try clear c3
   try clear c6
   try clear hcz5_0
   try clear hcz5_1
   try clear hcz7_0
   try clear hcz7_1
   try clear hfz5_0
   try clear hfz5_1
   try clear hfz7_0
   try clear hfz7_1
   obtain ⟨x13_1,rfl,HA,HK1,BK268,HB⟩:=hrel;cases gk with
   | zero=>exact absurd HA.out (by simp [impl_IsOrder.l0])
   | succ k1 =>
    have H:=HA.out;clear HA;simp only [impl_IsOrder.l0] at H
    by_cases c8 : x13_1 < (l0_1.length : Int)
    ·rw [if_pos c8] at H;have c8b0 : decide (x13_1 < (l0_1.length : Int)) = true:=decide_eq_true c8;clear c8;by_cases c9 : 0 ≤ x13_1
     ·rw [if_pos c9] at H;have c9b0 : decide (0 ≤ x13_1) = true:=decide_eq_true c9;clear c9;by_cases c10 : x13_1 < (l0_1.length : Int)
      ·rw [if_pos c10] at H;have c10b0 : decide (x13_1 < (l0_1.length : Int)) = true:=decide_eq_true c10;clear c10;replace H:=Option.bind_eq_some_iff.mp H;obtain ⟨t271,A110,H⟩:=H;replace H : (if t271 = true then (some false) else ((impl_members.f k1 (rd l0_1 x13_1)).bind fun t272=>(impl_IsOrder.l1 k1 (rd l0_1 x13_1) l0_1 (l0_1.length : Int) x13_1 t272 (t272.length : Int) 0 a0_0 l0_1))) = some r:=H;have A11:=A_ A110;clear A110;by_cases c12 : t271 = true
       ·subst c12;have H1 : (some false) = some r:=by rw [if_pos rfl] at H;exact H
        clear H;have H:=H1;clear H1;obtain rfl:=Option.some.inj H;have p270 : 0 ≤ (x13_1 : Int):=of_decide_eq_true (by first|(with_reducible assumption)|assumption);have q270 : x13_1 < (l0_1.length : Int):=of_decide_eq_true (by first|(with_reducible assumption)|assumption);obtain ⟨ad270,e270,hx270_0⟩:=Kd.at_int HR0_1.out x13_1 p270 q270;cases e270
        (try replace hx270_0:=(HB.out.cell (World.block_lt_of_cell? w _ hx270_0)).trans hx270_0);replace p270:=eq_true p270;replace q270:=eq_true q270;have hcz13_0 : wr.cell? ⟨gb268,0,none⟩ = some (.int .i64 a0_0):=blk_cell BK268.out 0;have hcz13_1 : wr.cell? ⟨gb268,1,none⟩ = some (.slice (some ad270) l0_1.length c0_1):=blk_cell BK268.out 1;have hfz13_0:=blk_frozen BK268.out 0;have hfz13_1:=blk_frozen BK268.out 1;go_wp2_with (first|((with_reducible refine gate_callee (f:=146) rfl ?_);refine goesL_ (some 21) rfl rfl Tryd.func146 (by kernel_rfl) rfl #[.agg #[.int .i64 a0_0,.slice (some ad270) l0_1.length c0_1],.int .i64 x13_1,.int .i64 x13_1] rfl au_ ?_;(with_reducible refine (impl_Order_better.calls a0_0 _ _ l0_1 x13_1 x13_1 true _ ?side1 ?side2 A11.out).mono ?_);(case side1=>exact cl_ (Kd.C_below HR0_1.out HB.out));(case side2=>exact HC0_1.out);rintro e w14 ⟨rfl,hb⟩;refine ⟨_,rfl,?_⟩;replace BK268:=bz BK268 hb;replace HB:=A_ (below_step bb_ hb);(try clear hb);(try clear hb2);(try clear hk);(try clear hi)))
        go_ret
        exact ⟨by first|rfl|(simp [errW_none,errW_some] <;> rfl)|(simp [*,errW_none,errW_some] <;> rfl),bb_⟩
       ·replace c12:=Bool.eq_false_iff.mpr c12;subst c12;have H1 : ((impl_members.f k1 (rd l0_1 x13_1)).bind fun t272=>(impl_IsOrder.l1 k1 (rd l0_1 x13_1) l0_1 (l0_1.length : Int) x13_1 t272 (t272.length : Int) 0 a0_0 l0_1)) = some r:=by rw [if_neg (show ¬ (false = true) by decide)] at H;exact H
        clear H;have H:=H1;clear H1;replace H:=Option.bind_eq_some_iff.mp H;obtain ⟨t272,A150,H⟩:=H;replace H : (impl_IsOrder.l1 k1 (rd l0_1 x13_1) l0_1 (l0_1.length : Int) x13_1 t272 (t272.length : Int) 0 a0_0 l0_1) = some r:=H;have A15:=A_ A150;clear A150;have H':=A_ H;clear H;have p270 : 0 ≤ (x13_1 : Int):=of_decide_eq_true (by first|(with_reducible assumption)|assumption);have q270 : x13_1 < (l0_1.length : Int):=of_decide_eq_true (by first|(with_reducible assumption)|assumption);obtain ⟨ad270,e270,hx270_0⟩:=Kd.at_int HR0_1.out x13_1 p270 q270;cases e270
        (try replace hx270_0:=(HB.out.cell (World.block_lt_of_cell? w _ hx270_0)).trans hx270_0);replace p270:=eq_true p270;replace q270:=eq_true q270;have hcz16_0 : wr.cell? ⟨gb268,0,none⟩ = some (.int .i64 a0_0):=blk_cell BK268.out 0;have hcz16_1 : wr.cell? ⟨gb268,1,none⟩ = some (.slice (some ad270) l0_1.length c0_1):=blk_cell BK268.out 1;have hfz16_0:=blk_frozen BK268.out 0;have hfz16_1:=blk_frozen BK268.out 1;go_wp2_with (first|((with_reducible refine gate_callee (f:=146) rfl ?_);refine goesL_ (some 21) rfl rfl Tryd.func146 (by kernel_rfl) rfl #[.agg #[.int .i64 a0_0,.slice (some ad270) l0_1.length c0_1],.int .i64 x13_1,.int .i64 x13_1] rfl au_ ?_;(with_reducible refine (impl_Order_better.calls a0_0 _ _ l0_1 x13_1 x13_1 false _ ?side1 ?side2 A11.out).mono ?_);(case side1=>exact cl_ (Kd.C_below HR0_1.out HB.out));(case side2=>exact HC0_1.out);rintro e w17 ⟨rfl,hb⟩;refine ⟨_,rfl,?_⟩;replace BK268:=bz BK268 hb;replace HB:=A_ (below_step bb_ hb);(try clear hb);(try clear hb2);(try clear hk);(try clear hi))|((with_reducible refine gate_callee (f:=124) rfl ?_);refine goesL_ (some 23) rfl rfl Tryd.func124 (by kernel_rfl) rfl #[.int .i64 (rd l0_1 x13_1)] rfl au_ ?_;(with_reducible refine (impl_members.calls k1 (rd l0_1 x13_1) t272 _ ?side1 A15.out).mono ?_);(case side1=>first|exact HT.out|exact HT.out.below bb_|(repeat (first|exact HT.out|apply TabOK.drewN|apply TabOK.drew|apply TabOK.alloc)));rintro e w18 ⟨v273,rfl,ho0,hb⟩;refine ⟨_,rfl,?_⟩;have HO274:=A_ (Kd.R_lower ho0 (below_size bb_));replace BK268:=bz BK268 hb;replace HB:=A_ (below_step bb_ hb);(try clear hb);(try clear hb2);(try clear hk);(try clear hi);(try clear ho0);obtain ⟨Ao19,co19,eo19⟩:=Kd.R_slice HO274.out;subst eo19))
        go_loopg [25] k1 (fun kq v25 w'=>∃ (x25_2 : Int),v25 = .int .i64 x25_2 ∧ Aside0 (impl_IsOrder.l1 kq (rd l0_1 x13_1) l0_1 (l0_1.length : Int) x13_1 t272 (t272.length : Int) x25_2 a0_0 l0_1 = some r) ∧ Aside0 (kq ≤ k1) ∧ Aside0 (Kd.R (Kd.int .i64) 3 w' w.heap.size (fun _=>True) (.slice Ao19 t272.length co19) t272) ∧ Aside0 (w'.heap[gb268]? = some (.cells #[.int .i64 a0_0,(.slice (some ad270) l0_1.length c0_1)] 28 (0,0))) ∧ Aside0 (Below w.heap.size w w'))
        case atStart=>exact ⟨(0),(by first|rfl|(simp;done)|(simp [*];done)),H',⟨Nat.le_refl _⟩,⟨by (with_reducible repeat (first|apply Kd.R_alloc|apply Kd.R_drewN|apply Kd.R_drew));exact HO274.out⟩,⟨bl_ BK268⟩,⟨bb_⟩⟩
        case round =>
         clear H';try clear c1
         try clear p2
         try clear q2
         try clear hx2
         try clear c3
         try clear c6
         try clear c8
         try clear c8b0
         try clear c9
         try clear c9b0
         try clear c10
         try clear c10b0
         try clear c12
         try clear c14
         try clear hcz13_0
         try clear hcz13_1
         try clear hcz16_0
         try clear hcz16_1
         try clear hcz5_0
         try clear hcz5_1
         try clear hcz7_0
         try clear hcz7_1
         try clear hfz13_0
         try clear hfz13_1
         try clear hfz16_0
         try clear hfz16_1
         try clear hfz5_0
         try clear hfz5_1
         try clear hfz7_0
         try clear hfz7_1
         try clear hx270_0
         try clear p2
         try clear p270
         try clear q270
         obtain ⟨x25_2,rfl,HA,HK2,HO_23,BK268,HB⟩:=hrel;cases gk with
         | zero=>exact absurd HA.out (by simp [impl_IsOrder.l1])
         | succ k2 =>
          have H:=HA.out;clear HA;simp only [impl_IsOrder.l1] at H
          by_cases c20 : x25_2 < (t272.length : Int)
          ·rw [if_pos c20] at H;have c20b0 : decide (x25_2 < (t272.length : Int)) = true:=decide_eq_true c20;clear c20;by_cases c21 : 0 ≤ x25_2
           ·rw [if_pos c21] at H;have c21b0 : decide (0 ≤ x25_2) = true:=decide_eq_true c21;clear c21;by_cases c22 : x25_2 < (t272.length : Int)
            ·rw [if_pos c22] at H;have c22b0 : decide (x25_2 < (t272.length : Int)) = true:=decide_eq_true c22;clear c22;by_cases c23 : 0 ≤ (rd t272 x25_2)
             ·rw [if_pos c23] at H;have c23b0 : decide (0 ≤ (rd t272 x25_2)) = true:=decide_eq_true c23;clear c23;by_cases c24 : (rd t272 x25_2) < (l0_1.length : Int)
              ·rw [if_pos c24] at H;have c24b0 : decide ((rd t272 x25_2) < (l0_1.length : Int)) = true:=decide_eq_true c24;clear c24;by_cases c25 : (Go.bits .andNot .i64 (rd l0_1 (rd t272 x25_2)) (rd l0_1 x13_1)) = 0
               ·rw [if_pos c25] at H;have c25b0 : ((Go.bits .andNot .i64 (rd l0_1 (rd t272 x25_2)) (rd l0_1 x13_1)) == 0) = true:=beq_iff_eq.mpr c25;have c25b1 : ((Go.bits .andNot .i64 (rd l0_1 (rd t272 x25_2)) (rd l0_1 x13_1)) != 0) = false:=bne_eq_false_iff_eq.mpr c25;clear c25;have H':=A_ H;clear H;have p275 : 0 ≤ (x25_2 : Int):=of_decide_eq_true (by first|(with_reducible assumption)|assumption);have q275 : x25_2 < (t272.length : Int):=of_decide_eq_true (by first|(with_reducible assumption)|assumption);obtain ⟨ad275,e275,hx275_0⟩:=Kd.at_int (Kd.R_reads' HO_23.out).2.2 x25_2 p275 q275;cases e275
                replace p275:=eq_true p275;replace q275:=eq_true q275;have hcz26_0 : wr.cell? ⟨gb268,0,none⟩ = some (.int .i64 a0_0):=blk_cell BK268.out 0;have hcz26_1 : wr.cell? ⟨gb268,1,none⟩ = some (.slice (some ad270) l0_1.length c0_1):=blk_cell BK268.out 1;have hfz26_0:=blk_frozen BK268.out 0;have hfz26_1:=blk_frozen BK268.out 1;have p276 : 0 ≤ ((rd t272 x25_2) : Int):=of_decide_eq_true (by first|(with_reducible assumption)|assumption);have q276 : (rd t272 x25_2) < (l0_1.length : Int):=of_decide_eq_true (by first|(with_reducible assumption)|assumption);obtain ⟨ad276,e276,hx276_0⟩:=Kd.at_int HR0_1.out (rd t272 x25_2) p276 q276;obtain rfl : ad270 = ad276:=(by injection e276);(try replace hx276_0:=(HB.out.cell (World.block_lt_of_cell? w _ hx276_0)).trans hx276_0);replace p276:=eq_true p276;replace q276:=eq_true q276;go_wp2
                go_roundg k2
                case measure=>have:=HK1.out;have:=HK2.out;omega
                case rel=>exact ⟨(wrap64 (x25_2 + 1)),(by first|rfl|(simp;done)|(simp [*];done)),H',⟨by have:=HK1.out;have:=HK2.out;omega⟩,⟨by (with_reducible repeat (first|apply Kd.R_alloc|apply Kd.R_drewN|apply Kd.R_drew));exact HO_23.out⟩,⟨bl_ BK268⟩,⟨bb_⟩⟩
               ·rw [if_neg c25] at H;have c25b0 : ((Go.bits .andNot .i64 (rd l0_1 (rd t272 x25_2)) (rd l0_1 x13_1)) == 0) = false:=beq_eq_false_iff_ne.mpr c25;have c25b1 : ((Go.bits .andNot .i64 (rd l0_1 (rd t272 x25_2)) (rd l0_1 x13_1)) != 0) = true:=bne_iff_ne.mpr c25;obtain rfl:=Option.some.inj H;have p275 : 0 ≤ (x25_2 : Int):=of_decide_eq_true (by first|(with_reducible assumption)|assumption);have q275 : x25_2 < (t272.length : Int):=of_decide_eq_true (by first|(with_reducible assumption)|assumption);obtain ⟨ad275,e275,hx275_0⟩:=Kd.at_int (Kd.R_reads' HO_23.out).2.2 x25_2 p275 q275;cases e275
                replace p275:=eq_true p275;replace q275:=eq_true q275;have hcz27_0 : wr.cell? ⟨gb268,0,none⟩ = some (.int .i64 a0_0):=blk_cell BK268.out 0;have hcz27_1 : wr.cell? ⟨gb268,1,none⟩ = some (.slice (some ad270) l0_1.length c0_1):=blk_cell BK268.out 1;have hfz27_0:=blk_frozen BK268.out 0;have hfz27_1:=blk_frozen BK268.out 1;have p276 : 0 ≤ ((rd t272 x25_2) : Int):=of_decide_eq_true (by first|(with_reducible assumption)|assumption);have q276 : (rd t272 x25_2) < (l0_1.length : Int):=of_decide_eq_true (by first|(with_reducible assumption)|assumption);obtain ⟨ad276,e276,hx276_0⟩:=Kd.at_int HR0_1.out (rd t272 x25_2) p276 q276;obtain rfl : ad270 = ad276:=(by injection e276);(try replace hx276_0:=(HB.out.cell (World.block_lt_of_cell? w _ hx276_0)).trans hx276_0);replace p276:=eq_true p276;replace q276:=eq_true q276;go_wp2
                go_ret
                exact ⟨by first|rfl|(simp [errW_none,errW_some] <;> rfl)|(simp [*,errW_none,errW_some] <;> rfl),bb_⟩
              ·rw [if_neg c24] at H;exact absurd H (by simp)
             ·rw [if_neg c23] at H;exact absurd H (by simp)
            ·rw [if_neg c22] at H;exact absurd H (by simp)
           ·rw [if_neg c21] at H;exact absurd H (by simp)
          ·rw [if_neg c20] at H;have c20b0 : decide (x25_2 < (t272.length : Int)) = false:=decide_eq_false c20;clear c20;have H':=A_ H;clear H;go_wp2
           go_roundg k2
           case measure=>have:=HK1.out;have:=HK2.out;omega
           case rel=>exact ⟨(wrap64 (x13_1 + 1)),(by first|rfl|(simp;done)|(simp [*];done)),H',⟨by have:=HK1.out;have:=HK2.out;omega⟩,⟨bl_ BK268⟩,⟨bb_⟩⟩
      ·rw [if_neg c10] at H;exact absurd H (by simp)
     ·rw [if_neg c9] at H;exact absurd H (by simp)
    ·rw [if_neg c8] at H;have c8b0 : decide (x13_1 < (l0_1.length : Int)) = false:=decide_eq_false c8;clear c8;obtain rfl:=Option.some.inj H;go_wp2
     go_ret
     exact ⟨by first|rfl|(simp [errW_none,errW_some] <;> rfl)|(simp [*,errW_none,errW_some] <;> rfl),bb_⟩
 ·replace c3:=Bool.eq_false_iff.mpr c3;subst c3;have H1 : (some false) = some r:=by rw [if_neg (show ¬ (false = true) by decide)] at H;exact H
  clear H;have H:=H1;clear H1;obtain rfl:=Option.some.inj H;go_enter Tryd.func61,Tryd.ntmps61
  go_wp2_with (first|((with_reducible refine gate_dst (N:=1) rfl ?_);refine box_event ?hg (N:=1) ?hd (cs:=#[.int .i64 a0_0,.slice A0_1 l0_1.length c0_1]) (t:=28) ?hr ?_;(case hd=>rfl);(case hg=>rfl);(case hr=>first|(go_simp;done)|(go_simp;rfl));intro gb268 hg w28 hbox hb;have BK268:=A_ (hbox);have GW268:=A_ ((by rw [hg];exact (below_size bb_) : w.heap.size ≤ gb268));have GE268:=A_ ((by rw [hg];exact (below_size bb_) : w.heap.size ≤ gb268));replace HB:=A_ (below_step bb_ hb);clear hb hbox hg;have hcz29_0 : w28.cell? ⟨gb268,0,none⟩ = some (.int .i64 a0_0):=blk_cell BK268.out 0;have hcz29_1 : w28.cell? ⟨gb268,1,none⟩ = some (.slice A0_1 l0_1.length c0_1):=blk_cell BK268.out 1;have hfz29_0:=blk_frozen BK268.out 0;have hfz29_1:=blk_frozen BK268.out 1)|((with_reducible refine gate_callee (f:=122) rfl ?_);refine goesL_ (some 8) rfl rfl Tryd.func122 (by kernel_rfl) rfl #[.agg #[.int .i64 a0_0,.slice A0_1 l0_1.length c0_1]] rfl au_ ?_;(with_reducible refine (impl_IsRelation.calls k a0_0 _ _ l0_1 false _ ?side1 ?side2 A2.out).mono ?_);(case side1=>exact cl_ (Kd.C_below HR0_1.out HB.out));(case side2=>exact HC0_1.out);rintro e w30 ⟨rfl,hb⟩;refine ⟨_,rfl,?_⟩;replace BK268:=bz BK268 hb;replace HB:=A_ (below_step bb_ hb);(try clear hb);(try clear hb2);(try clear hk);(try clear hi)))
  go_ret
  exact ⟨by first|rfl|(simp [errW_none,errW_some] <;> rfl)|(simp [*,errW_none,errW_some] <;> rfl),bb_⟩
mutual
def impl_Order_twoTwo.l0 : Nat → Int → Int → Int → List Int → Option (List Int)
 | 0,_,_,_,_=>none
 | k + 1,x8,x9,x278000,x278001=>if x9 < x8 then (impl_Order_twoTwo.l1 k x9 x8 x9 x278000 0 x278000 x278001) else (some ([] : List Int))
def impl_Order_twoTwo.l1 : Nat → Int → Int → Int → Int → Int → Int → List Int → Option (List Int)
 | 0,_,_,_,_,_,_,_=>none
 | k + 1,x3,x8,x9,x13,x14,x278000,x278001=>if x14 < x13 then (impl_Order_twoTwo.l2 k x3 x14 x8 x9 x13 x14 x278000 0 x278000 x278001) else (impl_Order_twoTwo.l0 k x8 (wrap64 (x9 + 1)) x278000 x278001)
def impl_Order_twoTwo.l2 : Nat → Int → Int → Int → Int → Int → Int → Int → Int → Int → List Int → Option (List Int)
 | 0,_,_,_,_,_,_,_,_,_,_=>none
 | k + 1,x3,x4,x8,x9,x13,x14,x18,x19,x278000,x278001=>if x19 < x18 then (impl_Order_twoTwo.l3 k x3 x4 x19 x8 x9 x13 x14 x18 x19 x278000 0 x278000 x278001) else (impl_Order_twoTwo.l1 k x3 x8 x9 x13 (wrap64 (x14 + 1)) x278000 x278001)
def impl_Order_twoTwo.l3 : Nat → Int → Int → Int → Int → Int → Int → Int → Int → Int → Int → Int → Int → List Int → Option (List Int)
 | 0,_,_,_,_,_,_,_,_,_,_,_,_,_=>none
 | k + 1,x3,x4,x5,x8,x9,x13,x14,x18,x19,x23,x24,x278000,x278001=>if x24 < x23 then ((impl_Order_better.f x278000 x278001 x3 x4).bind fun t278=>(if t278 = true then ((impl_Order_better.f x278000 x278001 x5 x24).bind fun t279=>(if t279 = true then ((impl_Order_better.f x278000 x278001 x5 x4).bind fun t280=>(if t280 = true then (impl_Order_twoTwo.l3 k x3 x4 x5 x8 x9 x13 x14 x18 x19 x23 (wrap64 (x24 + 1)) x278000 x278001) else ((impl_Order_better.f x278000 x278001 x3 x24).bind fun t281=>(if t281 = true then (impl_Order_twoTwo.l3 k x3 x4 x5 x8 x9 x13 x14 x18 x19 x23 (wrap64 (x24 + 1)) x278000 x278001) else (some (([x3,x4,x5,x24] : List Int))))))) else (impl_Order_twoTwo.l3 k x3 x4 x5 x8 x9 x13 x14 x18 x19 x23 (wrap64 (x24 + 1)) x278000 x278001))) else (impl_Order_twoTwo.l3 k x3 x4 x5 x8 x9 x13 x14 x18 x19 x23 (wrap64 (x24 + 1)) x278000 x278001))) else (impl_Order_twoTwo.l2 k x3 x4 x8 x9 x13 x14 x18 (wrap64 (x19 + 1)) x278000 x278001)
end
def impl_Order_twoTwo.f (k : Nat) (a0_0 : Int) (l0_1 : List Int) : Option (List Int) := impl_Order_twoTwo.l0 k a0_0 0 a0_0 l0_1
set_option maxHeartbeats 8000000 in
set_option maxRecDepth 100000 in
theorem impl_Order_twoTwo.calls (k : Nat) (a0_0 : Int) (A0_1 : Option Addr) (c0_1 : Nat) (l0_1 : List Int) (r : List Int) (w : World) (hr0_1 : Kd.C (Kd.int .i64) w A0_1 l0_1.length l0_1) (hc0_1 : l0_1.length ≤ c0_1) (h : impl_Order_twoTwo.f k a0_0 l0_1 = some r) :
 Calls Tryd.prog 141 #[.agg #[.int .i64 a0_0,.slice A0_1 l0_1.length c0_1]] w fun e w'=>∃ v0_ : Value,e = .returned (v0_) ∧ Kd.R (Kd.int .i64) 3 w' w.heap.size (fun _=>True) v0_ r ∧ Below w.heap.size w w' ∧ (r = [] → v0_ = .slice none 0 0):=by
 have hu28:=Tryd.underlying28;have HR0_1:=A_ hr0_1;have HC0_1:=A_ hc0_1;clear hr0_1 hc0_1;have HB:=A_ (Below.refl w.heap.size w);have H : (impl_Order_twoTwo.l0 k a0_0 0 a0_0 l0_1) = some r:=h;clear h;have H':=A_ H;clear H;go_enter Tryd.func141,Tryd.ntmps141
 go_wp2_with (first|((with_reducible refine gate_dst (N:=1) rfl ?_);refine box_event ?hg (N:=1) ?hd (cs:=#[.int .i64 a0_0,.slice A0_1 l0_1.length c0_1]) (t:=28) ?hr ?_;(case hd=>rfl);(case hg=>rfl);(case hr=>first|(go_simp;done)|(go_simp;rfl));intro gb277 hg w2 hbox hb;have BK277:=A_ (hbox);have GW277:=A_ ((by rw [hg];exact (below_size bb_) : w.heap.size ≤ gb277));have GE277:=A_ ((by rw [hg];exact (below_size bb_) : w.heap.size ≤ gb277));replace HB:=A_ (below_step bb_ hb);clear hb hbox hg;have hcz3_0 : w2.cell? ⟨gb277,0,none⟩ = some (.int .i64 a0_0):=blk_cell BK277.out 0;have hcz3_1 : w2.cell? ⟨gb277,1,none⟩ = some (.slice A0_1 l0_1.length c0_1):=blk_cell BK277.out 1;have hfz3_0:=blk_frozen BK277.out 0;have hfz3_1:=blk_frozen BK277.out 1))
 go_loopg [9] k (fun kq v9 w'=>∃ (x9_1 : Int),v9 = .int .i64 x9_1 ∧ Aside0 (impl_Order_twoTwo.l0 kq a0_0 x9_1 a0_0 l0_1 = some r) ∧ Aside0 (kq ≤ k) ∧ Aside0 (w'.heap[gb277]? = some (.cells #[.int .i64 a0_0,(.slice A0_1 l0_1.length c0_1)] 28 (0,0))) ∧ Aside0 (Below w.heap.size w w'))
 case atStart=>exact ⟨(0),(by first|rfl|(simp;done)|(simp [*];done)),H',⟨Nat.le_refl _⟩,⟨bl_ BK277⟩,⟨bb_⟩⟩
 case round =>
  clear H';try clear c1
  try clear p2
  try clear hcz3_0
  try clear hcz3_1
  try clear hfz3_0
  try clear hfz3_1
  obtain ⟨x9_1,rfl,HA,HK1,BK277,HB⟩:=hrel;cases gk with
  | zero => exact absurd HA.out (by simp [impl_Order_twoTwo.l0])
  | succ k1 =>
   have H:=HA.out;clear HA;simp only [impl_Order_twoTwo.l0] at H
   by_cases c4 : x9_1 < a0_0
   ·rw [if_pos c4] at H;have c4b0 : decide (x9_1 < a0_0) = true:=decide_eq_true c4;clear c4;have H':=A_ H;clear H;have hcz5_0 : wr.cell? ⟨gb277,0,none⟩ = some (.int .i64 a0_0):=blk_cell BK277.out 0;have hcz5_1 : wr.cell? ⟨gb277,1,none⟩ = some (.slice A0_1 l0_1.length c0_1):=blk_cell BK277.out 1;have hfz5_0:=blk_frozen BK277.out 0;have hfz5_1:=blk_frozen BK277.out 1;go_wp2
    go_loopg [14] k1 (fun kq v14 w'=>∃ (x14_2 : Int),v14 = .int .i64 x14_2 ∧ Aside0 (impl_Order_twoTwo.l1 kq x9_1 a0_0 x9_1 a0_0 x14_2 a0_0 l0_1 = some r) ∧ Aside0 (kq ≤ k1) ∧ Aside0 (w'.heap[gb277]? = some (.cells #[.int .i64 a0_0,(.slice A0_1 l0_1.length c0_1)] 28 (0,0))) ∧ Aside0 (Below w.heap.size w w'))
    case atStart=>exact ⟨(0),(by first|rfl|(simp;done)|(simp [*];done)),H',⟨Nat.le_refl _⟩,⟨bl_ BK277⟩,⟨bb_⟩⟩
    case round =>
     clear H';try clear c1
     try clear p2
     try clear c4
     try clear c4b0
     try clear hcz3_0
     try clear hcz3_1
     try clear hcz5_0
     try clear hcz5_1
     try clear hfz3_0
     try clear hfz3_1
     try clear hfz5_0
     try clear hfz5_1
     try clear p2
     obtain ⟨x14_2,rfl,HA,HK2,BK277,HB⟩:=hrel;cases gk with
     | zero=>exact absurd HA.out (by simp [impl_Order_twoTwo.l1])
     | succ k2 =>
      have H:=HA.out;clear HA;simp only [impl_Order_twoTwo.l1] at H
      by_cases c6 : x14_2 < a0_0
      ·rw [if_pos c6] at H;have c6b0 : decide (x14_2 < a0_0) = true:=decide_eq_true c6;clear c6;have H':=A_ H;clear H;have hcz7_0 : wr.cell? ⟨gb277,0,none⟩ = some (.int .i64 a0_0):=blk_cell BK277.out 0;have hcz7_1 : wr.cell? ⟨gb277,1,none⟩ = some (.slice A0_1 l0_1.length c0_1):=blk_cell BK277.out 1;have hfz7_0:=blk_frozen BK277.out 0;have hfz7_1:=blk_frozen BK277.out 1;go_wp2
       go_loopg [19] k2 (fun kq v19 w'=>∃ (x19_3 : Int),v19 = .int .i64 x19_3 ∧ Aside0 (impl_Order_twoTwo.l2 kq x9_1 x14_2 a0_0 x9_1 a0_0 x14_2 a0_0 x19_3 a0_0 l0_1 = some r) ∧ Aside0 (kq ≤ k2) ∧ Aside0 (w'.heap[gb277]? = some (.cells #[.int .i64 a0_0,(.slice A0_1 l0_1.length c0_1)] 28 (0,0))) ∧ Aside0 (Below w.heap.size w w'))
       case atStart=>exact ⟨(0),(by first|rfl|(simp;done)|(simp [*];done)),H',⟨Nat.le_refl _⟩,⟨bl_ BK277⟩,⟨bb_⟩⟩
       case round =>
        clear H';try clear c1
        try clear p2
        try clear c4
        try clear c4b0
        try clear c6
        try clear c6b0
        try clear hcz3_0
        try clear hcz3_1
        try clear hcz5_0
        try clear hcz5_1
        try clear hcz7_0
        try clear hcz7_1
        try clear hfz3_0
        try clear hfz3_1
        try clear hfz5_0
        try clear hfz5_1
        try clear hfz7_0
        try clear hfz7_1
        try clear p2
        obtain ⟨x19_3,rfl,HA,HK3,BK277,HB⟩:=hrel;cases gk with
        | zero=>exact absurd HA.out (by simp [impl_Order_twoTwo.l2])
        | succ k3 =>
         have H:=HA.out;clear HA;simp only [impl_Order_twoTwo.l2] at H
         by_cases c8 : x19_3 < a0_0
         ·rw [if_pos c8] at H;have c8b0 : decide (x19_3 < a0_0) = true:=decide_eq_true c8;clear c8;have H':=A_ H;clear H;have hcz9_0 : wr.cell? ⟨gb277,0,none⟩ = some (.int .i64 a0_0):=blk_cell BK277.out 0;have hcz9_1 : wr.cell? ⟨gb277,1,none⟩ = some (.slice A0_1 l0_1.length c0_1):=blk_cell BK277.out 1;have hfz9_0:=blk_frozen BK277.out 0;have hfz9_1:=blk_frozen BK277.out 1;go_wp2
          go_loopg [24] k3 (fun kq v24 w'=>∃ (x24_4 : Int),v24 = .int .i64 x24_4 ∧ Aside0 (impl_Order_twoTwo.l3 kq x9_1 x14_2 x19_3 a0_0 x9_1 a0_0 x14_2 a0_0 x19_3 a0_0 x24_4 a0_0 l0_1 = some r) ∧ Aside0 (kq ≤ k3) ∧ Aside0 (w'.heap[gb277]? = some (.cells #[.int .i64 a0_0,(.slice A0_1 l0_1.length c0_1)] 28 (0,0))) ∧ Aside0 (Below w.heap.size w w'))
          case atStart=>exact ⟨(0),(by first|rfl|(simp;done)|(simp [*];done)),H',⟨Nat.le_refl _⟩,⟨bl_ BK277⟩,⟨bb_⟩⟩
          case round =>
           clear H';try clear c1
           try clear p2
           try clear c4
           try clear c4b0
           try clear c6
           try clear c6b0
           try clear c8
           try clear c8b0
           try clear hcz3_0
           try clear hcz3_1
           try clear hcz5_0
           try clear hcz5_1
           try clear hcz7_0
           try clear hcz7_1
           try clear hcz9_0
           try clear hcz9_1
           try clear hfz3_0
           try clear hfz3_1
           try clear hfz5_0
           try clear hfz5_1
           try clear hfz7_0
           try clear hfz7_1
           try clear hfz9_0
           try clear hfz9_1
           try clear p2
           obtain ⟨x24_4,rfl,HA,HK4,BK277,HB⟩:=hrel;cases gk with
           | zero=>exact absurd HA.out (by simp [impl_Order_twoTwo.l3])
           | succ k4 =>
            have H:=HA.out;clear HA;simp only [impl_Order_twoTwo.l3] at H
            by_cases c10 : x24_4 < a0_0
            ·rw [if_pos c10] at H;have c10b0 : decide (x24_4 < a0_0) = true:=decide_eq_true c10;clear c10;replace H:=Option.bind_eq_some_iff.mp H;obtain ⟨t278,A110,H⟩:=H;replace H : (if t278 = true then ((impl_Order_better.f a0_0 l0_1 x19_3 x24_4).bind fun t279=>(if t279 = true then ((impl_Order_better.f a0_0 l0_1 x19_3 x14_2).bind fun t280=>(if t280 = true then (impl_Order_twoTwo.l3 k4 x9_1 x14_2 x19_3 a0_0 x9_1 a0_0 x14_2 a0_0 x19_3 a0_0 (wrap64 (x24_4 + 1)) a0_0 l0_1) else ((impl_Order_better.f a0_0 l0_1 x9_1 x24_4).bind fun t281=>(if t281 = true then (impl_Order_twoTwo.l3 k4 x9_1 x14_2 x19_3 a0_0 x9_1 a0_0 x14_2 a0_0 x19_3 a0_0 (wrap64 (x24_4 + 1)) a0_0 l0_1) else (some (([x9_1,x14_2,x19_3,x24_4] : List Int))))))) else (impl_Order_twoTwo.l3 k4 x9_1 x14_2 x19_3 a0_0 x9_1 a0_0 x14_2 a0_0 x19_3 a0_0 (wrap64 (x24_4 + 1)) a0_0 l0_1))) else (impl_Order_twoTwo.l3 k4 x9_1 x14_2 x19_3 a0_0 x9_1 a0_0 x14_2 a0_0 x19_3 a0_0 (wrap64 (x24_4 + 1)) a0_0 l0_1)) = some r:=H;have A11:=A_ A110;clear A110;by_cases c12 : t278 = true
             ·subst c12;have H1 : ((impl_Order_better.f a0_0 l0_1 x19_3 x24_4).bind fun t279=>(if t279 = true then ((impl_Order_better.f a0_0 l0_1 x19_3 x14_2).bind fun t280=>(if t280 = true then (impl_Order_twoTwo.l3 k4 x9_1 x14_2 x19_3 a0_0 x9_1 a0_0 x14_2 a0_0 x19_3 a0_0 (wrap64 (x24_4 + 1)) a0_0 l0_1) else ((impl_Order_better.f a0_0 l0_1 x9_1 x24_4).bind fun t281=>(if t281 = true then (impl_Order_twoTwo.l3 k4 x9_1 x14_2 x19_3 a0_0 x9_1 a0_0 x14_2 a0_0 x19_3 a0_0 (wrap64 (x24_4 + 1)) a0_0 l0_1) else (some (([x9_1,x14_2,x19_3,x24_4] : List Int))))))) else (impl_Order_twoTwo.l3 k4 x9_1 x14_2 x19_3 a0_0 x9_1 a0_0 x14_2 a0_0 x19_3 a0_0 (wrap64 (x24_4 + 1)) a0_0 l0_1))) = some r:=by rw [if_pos rfl] at H;exact H
              clear H;have H:=H1;clear H1;replace H:=Option.bind_eq_some_iff.mp H;obtain ⟨t279,A130,H⟩:=H;replace H : (if t279 = true then ((impl_Order_better.f a0_0 l0_1 x19_3 x14_2).bind fun t280=>(if t280 = true then (impl_Order_twoTwo.l3 k4 x9_1 x14_2 x19_3 a0_0 x9_1 a0_0 x14_2 a0_0 x19_3 a0_0 (wrap64 (x24_4 + 1)) a0_0 l0_1) else ((impl_Order_better.f a0_0 l0_1 x9_1 x24_4).bind fun t281=>(if t281 = true then (impl_Order_twoTwo.l3 k4 x9_1 x14_2 x19_3 a0_0 x9_1 a0_0 x14_2 a0_0 x19_3 a0_0 (wrap64 (x24_4 + 1)) a0_0 l0_1) else (some (([x9_1,x14_2,x19_3,x24_4] : List Int))))))) else (impl_Order_twoTwo.l3 k4 x9_1 x14_2 x19_3 a0_0 x9_1 a0_0 x14_2 a0_0 x19_3 a0_0 (wrap64 (x24_4 + 1)) a0_0 l0_1)) = some r:=H;have A13:=A_ A130;clear A130;by_cases c14 : t279 = true
              ·subst c14;have H1 : ((impl_Order_better.f a0_0 l0_1 x19_3 x14_2).bind fun t280=>(if t280 = true then (impl_Order_twoTwo.l3 k4 x9_1 x14_2 x19_3 a0_0 x9_1 a0_0 x14_2 a0_0 x19_3 a0_0 (wrap64 (x24_4 + 1)) a0_0 l0_1) else ((impl_Order_better.f a0_0 l0_1 x9_1 x24_4).bind fun t281=>(if t281 = true then (impl_Order_twoTwo.l3 k4 x9_1 x14_2 x19_3 a0_0 x9_1 a0_0 x14_2 a0_0 x19_3 a0_0 (wrap64 (x24_4 + 1)) a0_0 l0_1) else (some (([x9_1,x14_2,x19_3,x24_4] : List Int))))))) = some r:=by rw [if_pos rfl] at H;exact H
               clear H;have H:=H1;clear H1;replace H:=Option.bind_eq_some_iff.mp H;obtain ⟨t280,A150,H⟩:=H;replace H : (if t280 = true then (impl_Order_twoTwo.l3 k4 x9_1 x14_2 x19_3 a0_0 x9_1 a0_0 x14_2 a0_0 x19_3 a0_0 (wrap64 (x24_4 + 1)) a0_0 l0_1) else ((impl_Order_better.f a0_0 l0_1 x9_1 x24_4).bind fun t281=>(if t281 = true then (impl_Order_twoTwo.l3 k4 x9_1 x14_2 x19_3 a0_0 x9_1 a0_0 x14_2 a0_0 x19_3 a0_0 (wrap64 (x24_4 + 1)) a0_0 l0_1) else (some (([x9_1,x14_2,x19_3,x24_4] : List Int)))))) = some r:=H;have A15:=A_ A150;clear A150;by_cases c16 : t280 = true
               ·subst c16;have H1 : (impl_Order_twoTwo.l3 k4 x9_1 x14_2 x19_3 a0_0 x9_1 a0_0 x14_2 a0_0 x19_3 a0_0 (wrap64 (x24_4 + 1)) a0_0 l0_1) = some r:=by rw [if_pos rfl] at H;exact H
                clear H;have H:=H1;clear H1;have H':=A_ H;clear H;have hcz17_0 : wr.cell? ⟨gb277,0,none⟩ = some (.int .i64 a0_0):=blk_cell BK277.out 0;have hcz17_1 : wr.cell? ⟨gb277,1,none⟩ = some (.slice A0_1 l0_1.length c0_1):=blk_cell BK277.out 1;have hfz17_0:=blk_frozen BK277.out 0;have hfz17_1:=blk_frozen BK277.out 1;go_wp2_with (first|((with_reducible refine gate_callee (f:=146) rfl ?_);refine goesL_ (some 30) rfl rfl Tryd.func146 (by kernel_rfl) rfl #[.agg #[.int .i64 a0_0,.slice A0_1 l0_1.length c0_1],.int .i64 x9_1,.int .i64 x14_2] rfl au_ ?_;(with_reducible refine (impl_Order_better.calls a0_0 _ _ l0_1 x9_1 x14_2 true _ ?side1 ?side2 A11.out).mono ?_);(case side1=>exact cl_ (Kd.C_below HR0_1.out HB.out));(case side2=>exact HC0_1.out);rintro e w18 ⟨rfl,hb⟩;refine ⟨_,rfl,?_⟩;replace BK277:=bz BK277 hb;replace HB:=A_ (below_step bb_ hb);(try clear hb);(try clear hb2);(try clear hk);(try clear hi);have hcz19_0 : w18.cell? ⟨gb277,0,none⟩ = some (.int .i64 a0_0):=blk_cell BK277.out 0;have hcz19_1 : w18.cell? ⟨gb277,1,none⟩ = some (.slice A0_1 l0_1.length c0_1):=blk_cell BK277.out 1;have hfz19_0:=blk_frozen BK277.out 0;have hfz19_1:=blk_frozen BK277.out 1)|(go_at_call 146;(with_reducible refine (impl_Order_better.calls a0_0 _ _ l0_1 x19_3 x24_4 true _ ?side1 ?side2 A13.out).mono ?_);(case side1=>exact cl_ (Kd.C_below HR0_1.out HB.out));(case side2=>exact HC0_1.out);rintro e w20 ⟨rfl,hb⟩;replace BK277:=bz BK277 hb;replace HB:=A_ (below_step bb_ hb);(try clear hb);(try clear hb2);(try clear hk);(try clear hi);have hcz21_0 : w20.cell? ⟨gb277,0,none⟩ = some (.int .i64 a0_0):=blk_cell BK277.out 0;have hcz21_1 : w20.cell? ⟨gb277,1,none⟩ = some (.slice A0_1 l0_1.length c0_1):=blk_cell BK277.out 1;have hfz21_0:=blk_frozen BK277.out 0;have hfz21_1:=blk_frozen BK277.out 1)|(go_at_call 146;(with_reducible refine (impl_Order_better.calls a0_0 _ _ l0_1 x19_3 x14_2 true _ ?side1 ?side2 A15.out).mono ?_);(case side1=>exact cl_ (Kd.C_below HR0_1.out HB.out));(case side2=>exact HC0_1.out);rintro e w22 ⟨rfl,hb⟩;replace BK277:=bz BK277 hb;replace HB:=A_ (below_step bb_ hb);(try clear hb);(try clear hb2);(try clear hk);(try clear hi)))
                go_roundg k4
                case measure=>have:=HK1.out;have:=HK2.out;have:=HK3.out;have:=HK4.out;omega
                case rel=>exact ⟨(wrap64 (x24_4 + 1)),(by first|rfl|(simp;done)|(simp [*];done)),H',⟨by have:=HK1.out;have:=HK2.out;have:=HK3.out;have:=HK4.out;omega⟩,⟨bl_ BK277⟩,⟨bb_⟩⟩
               ·replace c16:=Bool.eq_false_iff.mpr c16;subst c16;have H1 : ((impl_Order_better.f a0_0 l0_1 x9_1 x24_4).bind fun t281=>(if t281 = true then (impl_Order_twoTwo.l3 k4 x9_1 x14_2 x19_3 a0_0 x9_1 a0_0 x14_2 a0_0 x19_3 a0_0 (wrap64 (x24_4 + 1)) a0_0 l0_1) else (some (([x9_1,x14_2,x19_3,x24_4] : List Int))))) = some r:=by rw [if_neg (show ¬ (false = true) by decide)] at H;exact H
                clear H;have H:=H1;clear H1;replace H:=Option.bind_eq_some_iff.mp H;obtain ⟨t281,A230,H⟩:=H;replace H : (if t281 = true then (impl_Order_twoTwo.l3 k4 x9_1 x14_2 x19_3 a0_0 x9_1 a0_0 x14_2 a0_0 x19_3 a0_0 (wrap64 (x24_4 + 1)) a0_0 l0_1) else (some (([x9_1,x14_2,x19_3,x24_4] : List Int)))) = some r:=H;have A23:=A_ A230;clear A230;by_cases c24 : t281 = true
                ·subst c24;have H1 : (impl_Order_twoTwo.l3 k4 x9_1 x14_2 x19_3 a0_0 x9_1 a0_0 x14_2 a0_0 x19_3 a0_0 (wrap64 (x24_4 + 1)) a0_0 l0_1) = some r:=by rw [if_pos rfl] at H;exact H
                 clear H;have H:=H1;clear H1;have H':=A_ H;clear H;have hcz25_0 : wr.cell? ⟨gb277,0,none⟩ = some (.int .i64 a0_0):=blk_cell BK277.out 0;have hcz25_1 : wr.cell? ⟨gb277,1,none⟩ = some (.slice A0_1 l0_1.length c0_1):=blk_cell BK277.out 1;have hfz25_0:=blk_frozen BK277.out 0;have hfz25_1:=blk_frozen BK277.out 1;go_wp2_with (first|((with_reducible refine gate_callee (f:=146) rfl ?_);refine goesL_ (some 30) rfl rfl Tryd.func146 (by kernel_rfl) rfl #[.agg #[.int .i64 a0_0,.slice A0_1 l0_1.length c0_1],.int .i64 x9_1,.int .i64 x14_2] rfl au_ ?_;(with_reducible refine (impl_Order_better.calls a0_0 _ _ l0_1 x9_1 x14_2 true _ ?side1 ?side2 A11.out).mono ?_);(case side1=>exact cl_ (Kd.C_below HR0_1.out HB.out));(case side2=>exact HC0_1.out);rintro e w26 ⟨rfl,hb⟩;refine ⟨_,rfl,?_⟩;replace BK277:=bz BK277 hb;replace HB:=A_ (below_step bb_ hb);(try clear hb);(try clear hb2);(try clear hk);(try clear hi);have hcz27_0 : w26.cell? ⟨gb277,0,none⟩ = some (.int .i64 a0_0):=blk_cell BK277.out 0;have hcz27_1 : w26.cell? ⟨gb277,1,none⟩ = some (.slice A0_1 l0_1.length c0_1):=blk_cell BK277.out 1;have hfz27_0:=blk_frozen BK277.out 0;have hfz27_1:=blk_frozen BK277.out 1)|(go_at_call 146;(with_reducible refine (impl_Order_better.calls a0_0 _ _ l0_1 x19_3 x24_4 true _ ?side1 ?side2 A13.out).mono ?_);(case side1=>exact cl_ (Kd.C_below HR0_1.out HB.out));(case side2=>exact HC0_1.out);rintro e w28 ⟨rfl,hb⟩;replace BK277:=bz BK277 hb;replace HB:=A_ (below_step bb_ hb);(try clear hb);(try clear hb2);(try clear hk);(try clear hi);have hcz29_0 : w28.cell? ⟨gb277,0,none⟩ = some (.int .i64 a0_0):=blk_cell BK277.out 0;have hcz29_1 : w28.cell? ⟨gb277,1,none⟩ = some (.slice A0_1 l0_1.length c0_1):=blk_cell BK277.out 1;have hfz29_0:=blk_frozen BK277.out 0;have hfz29_1:=blk_frozen BK277.out 1)|(go_at_call 146;(with_reducible refine (impl_Order_better.calls a0_0 _ _ l0_1 x19_3 x14_2 false _ ?side1 ?side2 A15.out).mono ?_);(case side1=>exact cl_ (Kd.C_below HR0_1.out HB.out));(case side2=>exact HC0_1.out);rintro e w30 ⟨rfl,hb⟩;replace BK277:=bz BK277 hb;replace HB:=A_ (below_step bb_ hb);(try clear hb);(try clear hb2);(try clear hk);(try clear hi);have hcz31_0 : w30.cell? ⟨gb277,0,none⟩ = some (.int .i64 a0_0):=blk_cell BK277.out 0;have hcz31_1 : w30.cell? ⟨gb277,1,none⟩ = some (.slice A0_1 l0_1.length c0_1):=blk_cell BK277.out 1;have hfz31_0:=blk_frozen BK277.out 0;have hfz31_1:=blk_frozen BK277.out 1)|(go_at_call 146;(with_reducible refine (impl_Order_better.calls a0_0 _ _ l0_1 x9_1 x24_4 true _ ?side1 ?side2 A23.out).mono ?_);(case side1=>exact cl_ (Kd.C_below HR0_1.out HB.out));(case side2=>exact HC0_1.out);rintro e w32 ⟨rfl,hb⟩;replace BK277:=bz BK277 hb;replace HB:=A_ (below_step bb_ hb);(try clear hb);(try clear hb2);(try clear hk);(try clear hi)))
                 go_roundg k4
                 case measure=>have:=HK1.out;have:=HK2.out;have:=HK3.out;have:=HK4.out;omega
                 case rel=>exact ⟨(wrap64 (x24_4 + 1)),(by first|rfl|(simp;done)|(simp [*];done)),H',⟨by have:=HK1.out;have:=HK2.out;have:=HK3.out;have:=HK4.out;omega⟩,⟨bl_ BK277⟩,⟨bb_⟩⟩
                ·replace c24:=Bool.eq_false_iff.mpr c24;subst c24;have H1 : (some (([x9_1,x14_2,x19_3,x24_4] : List Int))) = some r:=by rw [if_neg (show ¬ (false = true) by decide)] at H;exact H
                 clear H;have H:=H1;clear H1;obtain ⟨y282,hy282⟩ : ∃ y_ : List Int,y_ = (([x9_1,x14_2,x19_3,x24_4] : List Int)):=⟨_,rfl⟩;replace H : (some y282) = some r:=by first|(rw [hy282];with_reducible exact H)|(have H2_:=(Option.bind_some _ _).symm.trans H;rw [hy282];with_reducible exact H2_)|(have H2_:=(Option.bind_some _ _).symm.trans H;with_reducible exact H2_)|with_reducible exact H|(rw [hy282];exact H)|exact H
                 have Ny282:=A_ hy282;clear hy282;obtain rfl:=Option.some.inj H;have hcz33_0 : wr.cell? ⟨gb277,0,none⟩ = some (.int .i64 a0_0):=blk_cell BK277.out 0;have hcz33_1 : wr.cell? ⟨gb277,1,none⟩ = some (.slice A0_1 l0_1.length c0_1):=blk_cell BK277.out 1;have hfz33_0:=blk_frozen BK277.out 0;have hfz33_1:=blk_frozen BK277.out 1;go_wp2_with (first|((with_reducible refine gate_callee (f:=146) rfl ?_);refine goesL_ (some 30) rfl rfl Tryd.func146 (by kernel_rfl) rfl #[.agg #[.int .i64 a0_0,.slice A0_1 l0_1.length c0_1],.int .i64 x9_1,.int .i64 x14_2] rfl au_ ?_;(with_reducible refine (impl_Order_better.calls a0_0 _ _ l0_1 x9_1 x14_2 true _ ?side1 ?side2 A11.out).mono ?_);(case side1=>exact cl_ (Kd.C_below HR0_1.out HB.out));(case side2=>exact HC0_1.out);rintro e w34 ⟨rfl,hb⟩;refine ⟨_,rfl,?_⟩;replace BK277:=bz BK277 hb;replace HB:=A_ (below_step bb_ hb);(try clear hb);(try clear hb2);(try clear hk);(try clear hi);have hcz35_0 : w34.cell? ⟨gb277,0,none⟩ = some (.int .i64 a0_0):=blk_cell BK277.out 0;have hcz35_1 : w34.cell? ⟨gb277,1,none⟩ = some (.slice A0_1 l0_1.length c0_1):=blk_cell BK277.out 1;have hfz35_0:=blk_frozen BK277.out 0;have hfz35_1:=blk_frozen BK277.out 1)|(go_at_call 146;(with_reducible refine (impl_Order_better.calls a0_0 _ _ l0_1 x19_3 x24_4 true _ ?side1 ?side2 A13.out).mono ?_);(case side1=>exact cl_ (Kd.C_below HR0_1.out HB.out));(case side2=>exact HC0_1.out);rintro e w36 ⟨rfl,hb⟩;replace BK277:=bz BK277 hb;replace HB:=A_ (below_step bb_ hb);(try clear hb);(try clear hb2);(try clear hk);(try clear hi);have hcz37_0 : w36.cell? ⟨gb277,0,none⟩ = some (.int .i64 a0_0):=blk_cell BK277.out 0;have hcz37_1 : w36.cell? ⟨gb277,1,none⟩ = some (.slice A0_1 l0_1.length c0_1):=blk_cell BK277.out 1;have hfz37_0:=blk_frozen BK277.out 0;have hfz37_1:=blk_frozen BK277.out 1)|(go_at_call 146;(with_reducible refine (impl_Order_better.calls a0_0 _ _ l0_1 x19_3 x14_2 false _ ?side1 ?side2 A15.out).mono ?_);(case side1=>exact cl_ (Kd.C_below HR0_1.out HB.out));(case side2=>exact HC0_1.out);rintro e w38 ⟨rfl,hb⟩;replace BK277:=bz BK277 hb;replace HB:=A_ (below_step bb_ hb);(try clear hb);(try clear hb2);(try clear hk);(try clear hi);have hcz39_0 : w38.cell? ⟨gb277,0,none⟩ = some (.int .i64 a0_0):=blk_cell BK277.out 0;have hcz39_1 : w38.cell? ⟨gb277,1,none⟩ = some (.slice A0_1 l0_1.length c0_1):=blk_cell BK277.out 1;have hfz39_0:=blk_frozen BK277.out 0;have hfz39_1:=blk_frozen BK277.out 1)|(go_at_call 146;(with_reducible refine (impl_Order_better.calls a0_0 _ _ l0_1 x9_1 x24_4 false _ ?side1 ?side2 A23.out).mono ?_);(case side1=>exact cl_ (Kd.C_below HR0_1.out HB.out));(case side2=>exact HC0_1.out);rintro e w40 ⟨rfl,hb⟩;replace BK277:=bz BK277 hb;replace HB:=A_ (below_step bb_ hb);(try clear hb);(try clear hb2);(try clear hk);(try clear hi))|((with_reducible refine gate_dst (N:=55) rfl ?_);refine Kd.R_lit (Kd.int .i64) _ 3 ?hg (N:=55) ?hd (xs:=([x9_1,x14_2,x19_3,x24_4] : List Int)) (inner:=[.int .i64 x9_1,.int .i64 x14_2,.int .i64 x19_3,.int .i64 x24_4]) (ok:=fun _=>True) (okp:=fun _=>True) ?hr ?hp (fun _ hk=>hk) trivial (Below.refl _ _) (Nat.le_refl _) (by simp) ?_;(case hd=>rfl);(case hg=>rfl);(case hr=>first|(go_simp;done)|(go_simp;rfl));(case hp=>exact (Reps.one (show Kd.M (Kd.int .i64) _ _ _ x9_1 [.int .i64 x9_1] from rfl) (Reps.one (show Kd.M (Kd.int .i64) _ _ _ x14_2 [.int .i64 x14_2] from rfl) (Reps.one (show Kd.M (Kd.int .i64) _ _ _ x19_3 [.int .i64 x19_3] from rfl) (Reps.one (show Kd.M (Kd.int .i64) _ _ _ x24_4 [.int .i64 x24_4] from rfl) (Reps.none _ _))))));intro v283 w41 ho42 hb hg_ hnew_;clear hg_ hnew_;(first|rw [← Ny282.out] at ho42|(simp only [Int.reduceToNat] at ho42;rw [← Ny282.out] at ho42));have HO284:=A_ (Kd.R_lower ho42 (below_size bb_));replace BK277:=bz BK277 hb;replace HB:=A_ (below_step bb_ hb);clear hb ho42))
                 go_ret
                 exact ⟨_,by first|rfl|(simp [errW_none,errW_some] <;> rfl)|(simp [*,errW_none,errW_some] <;> rfl),by (with_reducible repeat (first|apply Kd.R_alloc|apply Kd.R_drewN|apply Kd.R_drew));exact HO284.out,bb_,by first|trivial|rfl|(intro he_;first|rfl|(rw [Ny282.out] at he_;cases he_)|(cases he_))⟩
              ·replace c14:=Bool.eq_false_iff.mpr c14;subst c14;have H1 : (impl_Order_twoTwo.l3 k4 x9_1 x14_2 x19_3 a0_0 x9_1 a0_0 x14_2 a0_0 x19_3 a0_0 (wrap64 (x24_4 + 1)) a0_0 l0_1) = some r:=by rw [if_neg (show ¬ (false = true) by decide)] at H;exact H
               clear H;have H:=H1;clear H1;have H':=A_ H;clear H;have hcz43_0 : wr.cell? ⟨gb277,0,none⟩ = some (.int .i64 a0_0):=blk_cell BK277.out 0;have hcz43_1 : wr.cell? ⟨gb277,1,none⟩ = some (.slice A0_1 l0_1.length c0_1):=blk_cell BK277.out 1;have hfz43_0:=blk_frozen BK277.out 0;have hfz43_1:=blk_frozen BK277.out 1;go_wp2_with (first|((with_reducible refine gate_callee (f:=146) rfl ?_);refine goesL_ (some 30) rfl rfl Tryd.func146 (by kernel_rfl) rfl #[.agg #[.int .i64 a0_0,.slice A0_1 l0_1.length c0_1],.int .i64 x9_1,.int .i64 x14_2] rfl au_ ?_;(with_reducible refine (impl_Order_better.calls a0_0 _ _ l0_1 x9_1 x14_2 true _ ?side1 ?side2 A11.out).mono ?_);(case side1=>exact cl_ (Kd.C_below HR0_1.out HB.out));(case side2=>exact HC0_1.out);rintro e w44 ⟨rfl,hb⟩;refine ⟨_,rfl,?_⟩;replace BK277:=bz BK277 hb;replace HB:=A_ (below_step bb_ hb);(try clear hb);(try clear hb2);(try clear hk);(try clear hi);have hcz45_0 : w44.cell? ⟨gb277,0,none⟩ = some (.int .i64 a0_0):=blk_cell BK277.out 0;have hcz45_1 : w44.cell? ⟨gb277,1,none⟩ = some (.slice A0_1 l0_1.length c0_1):=blk_cell BK277.out 1;have hfz45_0:=blk_frozen BK277.out 0;have hfz45_1:=blk_frozen BK277.out 1)|(go_at_call 146;(with_reducible refine (impl_Order_better.calls a0_0 _ _ l0_1 x19_3 x24_4 false _ ?side1 ?side2 A13.out).mono ?_);(case side1=>exact cl_ (Kd.C_below HR0_1.out HB.out));(case side2=>exact HC0_1.out);rintro e w46 ⟨rfl,hb⟩;replace BK277:=bz BK277 hb;replace HB:=A_ (below_step bb_ hb);(try clear hb);(try clear hb2);(try clear hk);(try clear hi)))
               go_roundg k4
               case measure=>have:=HK1.out;have:=HK2.out;have:=HK3.out;have:=HK4.out;omega
               case rel=>exact ⟨(wrap64 (x24_4 + 1)),(by first|rfl|(simp;done)|(simp [*];done)),H',⟨by have:=HK1.out;have:=HK2.out;have:=HK3.out;have:=HK4.out;omega⟩,⟨bl_ BK277⟩,⟨bb_⟩⟩
             ·replace c12:=Bool.eq_false_iff.mpr c12;subst c12;have H1 : (impl_Order_twoTwo.l3 k4 x9_1 x14_2 x19_3 a0_0 x9_1 a0_0 x14_2 a0_0 x19_3 a0_0 (wrap64 (x24_4 + 1)) a0_0 l0_1) = some r:=by rw [if_neg (show ¬ (false = true) by decide)] at H;exact H
              clear H;have H:=H1;clear H1;have H':=A_ H;clear H;have hcz47_0 : wr.cell? ⟨gb277,0,none⟩ = some (.int .i64 a0_0):=blk_cell BK277.out 0;have hcz47_1 : wr.cell? ⟨gb277,1,none⟩ = some (.slice A0_1 l0_1.length c0_1):=blk_cell BK277.out 1;have hfz47_0:=blk_frozen BK277.out 0;have hfz47_1:=blk_frozen BK277.out 1;go_wp2_with (first|((with_reducible refine gate_callee (f:=146) rfl ?_);refine goesL_ (some 30) rfl rfl Tryd.func146 (by kernel_rfl) rfl #[.agg #[.int .i64 a0_0,.slice A0_1 l0_1.length c0_1],.int .i64 x9_1,.int .i64 x14_2] rfl au_ ?_;(with_reducible refine (impl_Order_better.calls a0_0 _ _ l0_1 x9_1 x14_2 false _ ?side1 ?side2 A11.out).mono ?_);(case side1=>exact cl_ (Kd.C_below HR0_1.out HB.out));(case side2=>exact HC0_1.out);rintro e w48 ⟨rfl,hb⟩;refine ⟨_,rfl,?_⟩;replace BK277:=bz BK277 hb;replace HB:=A_ (below_step bb_ hb);(try clear hb);(try clear hb2);(try clear hk);(try clear hi)))
              go_roundg k4
              case measure=>have:=HK1.out;have:=HK2.out;have:=HK3.out;have:=HK4.out;omega
              case rel=>exact ⟨(wrap64 (x24_4 + 1)),(by first|rfl|(simp;done)|(simp [*];done)),H',⟨by have:=HK1.out;have:=HK2.out;have:=HK3.out;have:=HK4.out;omega⟩,⟨bl_ BK277⟩,⟨bb_⟩⟩
            ·rw [if_neg c10] at H;have c10b0 : decide (x24_4 < a0_0) = false:=decide_eq_false c10;clear c10;have H':=A_ H;clear H;go_wp2
             go_roundg k4
             case measure=>have:=HK1.out;have:=HK2.out;have:=HK3.out;have:=HK4.out;omega
             case rel=>exact ⟨(wrap64 (x19_3 + 1)),(by first|rfl|(simp;done)|(simp [*];done)),H',⟨by have:=HK1.out;have:=HK2.out;have:=HK3.out;have:=HK4.out;omega⟩,⟨bl_ BK277⟩,⟨bb_⟩⟩
         ·rw [if_neg c8] at H;have c8b0 : decide (x19_3 < a0_0) = false:=decide_eq_false c8;clear c8;have H':=A_ H;clear H;go_wp2
          go_roundg k3
          case measure=>have:=HK1.out;have:=HK2.out;have:=HK3.out;omega
          case rel=>exact ⟨(wrap64 (x14_2 + 1)),(by first|rfl|(simp;done)|(simp [*];done)),H',⟨by have:=HK1.out;have:=HK2.out;have:=HK3.out;omega⟩,⟨bl_ BK277⟩,⟨bb_⟩⟩
      ·rw [if_neg c6] at H;have c6b0 : decide (x14_2 < a0_0) = false:=decide_eq_false c6;clear c6;have H':=A_ H;clear H;go_wp2
       go_roundg k2
       case measure=>have:=HK1.out;have:=HK2.out;omega
       case rel=>exact ⟨(wrap64 (x9_1 + 1)),(by first|rfl|(simp;done)|(simp [*];done)),H',⟨by have:=HK1.out;have:=HK2.out;omega⟩,⟨bl_ BK277⟩,⟨bb_⟩⟩
   ·rw [if_neg c4] at H;have c4b0 : decide (x9_1 < a0_0) = false:=decide_eq_false c4;clear c4;obtain rfl:=Option.some.inj H;go_wp2
    go_ret
    exact ⟨_,by first|rfl|(simp [errW_none,errW_some] <;> rfl)|(simp [*,errW_none,errW_some] <;> rfl),by first|exact Kd.R_nil _ _ _ _ _|exact Kd.N_nil _ _ _ _ _|exact Kd.V_nil _ _ _ _ _|exact Kd.Q_nil _ _ _ _ _|exact Kd.S_nil _ _ _ _ _,bb_,by first|trivial|rfl|(intro he_;first|rfl|(rw [Ny282.out] at he_;cases he_)|(cases he_))⟩
theorem impl_isInterval.nilAt {P : Program} (w : World) (d : Nat) (t e : TypeId) (a : Option Addr) (l c : Nat) (h : P.underlying t = some (.slice e)) : (Op.equalIn (d + 1) t (.slice a l c) (.slice none 0 0)).run P w = .ok a.isNone w:=by
 cases a <;> simp [Op.equalIn,run_underlying h]
theorem impl_isInterval.nilOf {P : Program} (w : World) (t e : TypeId) (a : Option Addr) (l c : Nat) (h : P.underlying t = some (.slice e)) : (binOp .eql t (.slice a l c) (.slice none 0 0)).run P w = .ok (.bool a.isNone) w:=by
 have h1 : (Op.equal t (.slice a l c) (.slice none 0 0)).run P w = .ok a.isNone w:=impl_isInterval.nilAt w 9999 t e a l c h;simp [binOp,h1]
theorem impl_isInterval.nilNo {P : Program} (w : World) (t e : TypeId) (a : Option Addr) (l c : Nat) (h : P.underlying t = some (.slice e)) : (binOp .neq t (.slice a l c) (.slice none 0 0)).run P w = .ok (.bool (!a.isNone)) w:=by
 have h1 : (Op.equal t (.slice a l c) (.slice none 0 0)).run P w = .ok a.isNone w:=impl_isInterval.nilAt w 9999 t e a l c h;simp [binOp,h1]
theorem impl_isInterval.nilE (w : World) (a : Option Addr) (l c : Nat) : (binOp .eql 22 (.slice a l c) (.slice none 0 0)).run Tryd.prog w = .ok (.bool a.isNone) w:=impl_isInterval.nilOf w _ _ a l c Tryd.underlying22
theorem impl_isInterval.nilN (w : World) (a : Option Addr) (l c : Nat) : (binOp .neq 22 (.slice a l c) (.slice none 0 0)).run Tryd.prog w = .ok (.bool (!a.isNone)) w:=impl_isInterval.nilNo w _ _ a l c Tryd.underlying22
theorem impl_isInterval.nilFact {w : World} {base e : Nat} {ok : Nat → Prop} {A : Option Addr} {n c : Nat} {xs : List Int} (h : Kd.R (Kd.int .i64) e w base ok (.slice A n c) xs) (hz : xs = [] → (.slice A n c : Value) = .slice none 0 0) : A.isNone = (xs == ([] : List Int)):=by
 by_cases hx : xs = []
 ·have:=hz hx;injection this with h1;rw [h1,hx];rfl
 ·obtain ⟨hn,_,hC⟩:=Kd.R_reads' h;have hpos : 0 < xs.length:=List.length_pos_iff.2 hx;obtain ⟨ad,e1,_⟩:=hC.2.2 hpos;rw [e1];cases xs with
  | nil => exact absurd rfl hx
  | cons x l => rfl
attribute [local go_sem] impl_isInterval.nilE impl_isInterval.nilN
def impl_isInterval.f (k : Nat) (a0_0 : Int) (l0_1 : List Int) : Option (Bool) := (impl_IsOrder.f k a0_0 l0_1).bind fun t286 => (if t286 = true then ((impl_Order_twoTwo.f k a0_0 l0_1).bind fun t287 => (some (t287 == ([] : List Int)))) else (some false))
set_option maxHeartbeats 8000000 in
set_option maxRecDepth 100000 in
theorem impl_isInterval.calls (k : Nat) (a0_0 : Int) (A0_1 : Option Addr) (c0_1 : Nat) (l0_1 : List Int) (r : Bool) (w : World) (hr0_1 : Kd.C (Kd.int .i64) w A0_1 l0_1.length l0_1) (hc0_1 : l0_1.length ≤ c0_1) (hT : TabOK w) (h : impl_isInterval.f k a0_0 l0_1 = some r) :
 Calls Tryd.prog 134 #[.agg #[.int .i64 a0_0,.slice A0_1 l0_1.length c0_1]] w fun e w'=>e = .returned (.bool r) ∧ Below w.heap.size w w':=by
 have hu28:=Tryd.underlying28;have HT:=A_ hT;clear hT;have HR0_1:=A_ hr0_1;have HC0_1:=A_ hc0_1;clear hr0_1 hc0_1;have HB:=A_ (Below.refl w.heap.size w);have H : ((impl_IsOrder.f k a0_0 l0_1).bind fun t286=>(if t286 = true then ((impl_Order_twoTwo.f k a0_0 l0_1).bind fun t287=>(some (t287 == ([] : List Int)))) else (some false))) = some r:=h;clear h;replace H:=Option.bind_eq_some_iff.mp H;obtain ⟨t286,A20,H⟩:=H;replace H : (if t286 = true then ((impl_Order_twoTwo.f k a0_0 l0_1).bind fun t287=>(some (t287 == ([] : List Int)))) else (some false)) = some r:=H;have A2:=A_ A20;clear A20;by_cases c3 : t286 = true
 ·subst c3;have H1 : ((impl_Order_twoTwo.f k a0_0 l0_1).bind fun t287=>(some (t287 == ([] : List Int)))) = some r:=by rw [if_pos rfl] at H;exact H
  clear H;have H:=H1;clear H1;replace H:=Option.bind_eq_some_iff.mp H;obtain ⟨t287,A40,H⟩:=H;replace H : (some (t287 == ([] : List Int))) = some r:=H;have A4:=A_ A40;clear A40;obtain rfl:=Option.some.inj H;go_enter Tryd.func134,Tryd.ntmps134
  go_wp2_with (first|((with_reducible refine gate_dst (N:=1) rfl ?_);refine box_event ?hg (N:=1) ?hd (cs:=#[.int .i64 a0_0,.slice A0_1 l0_1.length c0_1]) (t:=28) ?hr ?_;(case hd=>rfl);(case hg=>rfl);(case hr=>first|(go_simp;done)|(go_simp;rfl));intro gb285 hg w5 hbox hb;have BK285:=A_ (hbox);have GW285:=A_ ((by rw [hg];exact (below_size bb_) : w.heap.size ≤ gb285));have GE285:=A_ ((by rw [hg];exact (below_size bb_) : w.heap.size ≤ gb285));replace HB:=A_ (below_step bb_ hb);clear hb hbox hg;have hcz6_0 : w5.cell? ⟨gb285,0,none⟩ = some (.int .i64 a0_0):=blk_cell BK285.out 0;have hcz6_1 : w5.cell? ⟨gb285,1,none⟩ = some (.slice A0_1 l0_1.length c0_1):=blk_cell BK285.out 1;have hfz6_0:=blk_frozen BK285.out 0;have hfz6_1:=blk_frozen BK285.out 1)|((with_reducible refine gate_callee (f:=61) rfl ?_);refine goesL_ (some 4) rfl rfl Tryd.func61 (by kernel_rfl) rfl #[.agg #[.int .i64 a0_0,.slice A0_1 l0_1.length c0_1]] rfl au_ ?_;(with_reducible refine (impl_IsOrder.calls k a0_0 _ _ l0_1 true _ ?side1 ?side2 ?side3 A2.out).mono ?_);(case side1=>exact cl_ (Kd.C_below HR0_1.out HB.out));(case side2=>exact HC0_1.out);(case side3=>first|exact HT.out|exact HT.out.below bb_|(repeat (first|exact HT.out|apply TabOK.drewN|apply TabOK.drew|apply TabOK.alloc)));rintro e w7 ⟨rfl,hb⟩;refine ⟨_,rfl,?_⟩;replace BK285:=bz BK285 hb;replace HB:=A_ (below_step bb_ hb);(try clear hb);(try clear hb2);(try clear hk);(try clear hi);have hcz8_0 : w7.cell? ⟨gb285,0,none⟩ = some (.int .i64 a0_0):=blk_cell BK285.out 0;have hcz8_1 : w7.cell? ⟨gb285,1,none⟩ = some (.slice A0_1 l0_1.length c0_1):=blk_cell BK285.out 1;have hfz8_0:=blk_frozen BK285.out 0;have hfz8_1:=blk_frozen BK285.out 1)|(go_at_call 141;(with_reducible refine (impl_Order_twoTwo.calls k a0_0 _ _ l0_1 t287 _ ?side1 ?side2 A4.out).mono ?_);(case side1=>exact cl_ (Kd.C_below HR0_1.out HB.out));(case side2=>exact HC0_1.out);rintro e w9 ⟨v288,rfl,ho0,hb,hz_⟩;have HO289:=A_ (Kd.R_lower ho0 (below_size bb_));replace BK285:=bz BK285 hb;replace HB:=A_ (below_step bb_ hb);(try clear hb);(try clear hb2);(try clear hk);(try clear hi);(try clear ho0);obtain ⟨Ao10,co10,eo10⟩:=Kd.R_slice HO289.out;subst eo10;(try have hnl10:=impl_isInterval.nilFact HO289.out hz_);(try clear hz_)))
  go_ret
  exact ⟨by first|rfl|(rw [hnl10] <;> rfl)|(simp [*,errW_none,errW_some] <;> exact ⟨rfl,impl_isInterval.nilB _⟩)|(simp [errW_none,errW_some] <;> rfl)|(simp [*,errW_none,errW_some] <;> rfl),bb_⟩
 ·replace c3:=Bool.eq_false_iff.mpr c3;subst c3;have H1 : (some false) = some r:=by rw [if_neg (show ¬ (false = true) by decide)] at H;exact H
  clear H;have H:=H1;clear H1;obtain rfl:=Option.some.inj H;go_enter Tryd.func134,Tryd.ntmps134
  go_wp2_with (first|((with_reducible refine gate_dst (N:=1) rfl ?_);refine box_event ?hg (N:=1) ?hd (cs:=#[.int .i64 a0_0,.slice A0_1 l0_1.length c0_1]) (t:=28) ?hr ?_;(case hd=>rfl);(case hg=>rfl);(case hr=>first|(go_simp;done)|(go_simp;rfl));intro gb285 hg w11 hbox hb;have BK285:=A_ (hbox);have GW285:=A_ ((by rw [hg];exact (below_size bb_) : w.heap.size ≤ gb285));have GE285:=A_ ((by rw [hg];exact (below_size bb_) : w.heap.size ≤ gb285));replace HB:=A_ (below_step bb_ hb);clear hb hbox hg;have hcz12_0 : w11.cell? ⟨gb285,0,none⟩ = some (.int .i64 a0_0):=blk_cell BK285.out 0;have hcz12_1 : w11.cell? ⟨gb285,1,none⟩ = some (.slice A0_1 l0_1.length c0_1):=blk_cell BK285.out 1;have hfz12_0:=blk_frozen BK285.out 0;have hfz12_1:=blk_frozen BK285.out 1)|((with_reducible refine gate_callee (f:=61) rfl ?_);refine goesL_ (some 4) rfl rfl Tryd.func61 (by kernel_rfl) rfl #[.agg #[.int .i64 a0_0,.slice A0_1 l0_1.length c0_1]] rfl au_ ?_;(with_reducible refine (impl_IsOrder.calls k a0_0 _ _ l0_1 false _ ?side1 ?side2 ?side3 A2.out).mono ?_);(case side1=>exact cl_ (Kd.C_below HR0_1.out HB.out));(case side2=>exact HC0_1.out);(case side3=>first|exact HT.out|exact HT.out.below bb_|(repeat (first|exact HT.out|apply TabOK.drewN|apply TabOK.drew|apply TabOK.alloc)));rintro e w13 ⟨rfl,hb⟩;refine ⟨_,rfl,?_⟩;replace BK285:=bz BK285 hb;replace HB:=A_ (below_step bb_ hb);(try clear hb);(try clear hb2);(try clear hk);(try clear hi)))
  go_ret
  exact ⟨by first|rfl|(rw [hnl10] <;> rfl)|(simp [*,errW_none,errW_some] <;> exact ⟨rfl,impl_isInterval.nilB _⟩)|(simp [errW_none,errW_some] <;> rfl)|(simp [*,errW_none,errW_some] <;> rfl),bb_⟩
def impl_Order_mirror_1.f (a0 : Int) (a1 : Int) (a2_0 : Int) (l2_1 : List Int) : Option (Bool) := (impl_Order_better.f a2_0 l2_1 a1 a0).bind fun t291 => (some t291)
set_option maxHeartbeats 8000000 in
set_option maxRecDepth 100000 in
theorem impl_Order_mirror_1.calls (a0 : Int) (a1 : Int) (g2_ : Nat) (a2_0 : Int) (A2_1 : Option Addr) (c2_1 : Nat) (l2_1 : List Int) (r : Bool) (w : World) (hb2 : w.heap[g2_]? = some (.cells #[.int .i64 a2_0,.slice A2_1 l2_1.length c2_1] 28 (0,0))) (hr2_1 : Kd.C (Kd.int .i64) w A2_1 l2_1.length l2_1) (hc2_1 : l2_1.length ≤ c2_1) (h : impl_Order_mirror_1.f a0 a1 a2_0 l2_1 = some r) :
 Calls Tryd.prog 195 #[.int .i64 a0,.int .i64 a1,.pointer (some ⟨g2_,0,none⟩)] w fun e w'=>e = .returned (.bool r) ∧ Below w.heap.size w w':=by
 have hu28:=Tryd.underlying28;have HR2_1:=A_ hr2_1;have HC2_1:=A_ hc2_1;clear hr2_1 hc2_1;have BK290:=A_ hb2;clear hb2;have HB:=A_ (Below.refl w.heap.size w);have H : ((impl_Order_better.f a2_0 l2_1 a1 a0).bind fun t291=>(some t291)) = some r:=h;clear h;replace H:=Option.bind_eq_some_iff.mp H;obtain ⟨t291,A40,H⟩:=H;replace H : (some t291) = some r:=H;have A4:=A_ A40;clear A40;obtain rfl:=Option.some.inj H;have hcz5_0 : w.cell? ⟨g2_,0,none⟩ = some (.int .i64 a2_0):=blk_cell BK290.out 0;have hcz5_1 : w.cell? ⟨g2_,1,none⟩ = some (.slice A2_1 l2_1.length c2_1):=blk_cell BK290.out 1;have hfz5_0:=blk_frozen BK290.out 0;have hfz5_1:=blk_frozen BK290.out 1;go_enter Tryd.func195,Tryd.ntmps195
 go_wp2_with (first|((with_reducible refine gate_callee (f:=146) rfl ?_);refine goesL_ (some 9) rfl rfl Tryd.func146 (by kernel_rfl) rfl #[.agg #[.int .i64 a2_0,.slice A2_1 l2_1.length c2_1],.int .i64 a1,.int .i64 a0] rfl au_ ?_;(with_reducible refine (impl_Order_better.calls a2_0 _ _ l2_1 a1 a0 t291 _ ?side1 ?side2 A4.out).mono ?_);(case side1=>repeat (first|exact HR2_1.out|(with_reducible refine Kd.C_alloc ?_ _)|(with_reducible refine Kd.C_drewN ?_ _)|(with_reducible refine Kd.C_drew ?_)));(case side2=>exact HC2_1.out);rintro e w6 ⟨rfl,hb⟩;refine ⟨_,rfl,?_⟩;replace BK290:=bz BK290 hb;replace HB:=A_ (below_step bb_ hb);(try clear hb);(try clear hb2);(try clear hk);(try clear hi)))
 go_ret
 exact ⟨by first|rfl|(simp [errW_none,errW_some] <;> rfl)|(simp [*,errW_none,errW_some] <;> rfl),bb_⟩
end Go.Proofs.YtimjblnglhmakaaDoor.P
namespace Go.Proofs.YtimjblnglhmakaaDoor.P
open Go.RowKit Go.Proofs.YtimjblnglhmakaaDoorW.PrintWords Go.Proofs.YtimjblnglhmakaaDoorW.PrintLast Go.Proofs.YtimjblnglhmakaaDoorW.PrintMore
open Bool renaming true → T, false → F
open List renaming setIfInBounds_toArray → L_, set_cons_zero → M_, set_cons_succ → N_, map_toArray → P_, map_cons → Q_, map_nil → R_, length_drop → S_, length_take → U_
open Aside0 renaming mk → A_
attribute [local go_sem] max2_int min2_int max_two min_two max_three min_three max_four min_four
set_option linter.unusedVariables false
set_option linter.unusedSimpArgs false
attribute [local go_sem] fldOrder_0 fldOrder_1
def impl_Order_mirror.f (k : Nat) (a0_0 : Int) (l0_1 : List Int) : Option (Int × List Int) := (impl_relation.f k a0_0 (fun x0_ x1_ => impl_Order_mirror_1.f x0_ x1_ a0_0 l0_1)).bind fun bt294 => (some (bt294.1, bt294.2))
set_option maxHeartbeats 8000000 in
set_option maxRecDepth 100000 in
theorem impl_Order_mirror.calls (k : Nat) (a0_0 : Int) (A0_1 : Option Addr) (c0_1 : Nat) (l0_1 : List Int) (r1 : Int) (r2 : List Int) (w : World) (hr0_1 : Kd.C (Kd.int .i64) w A0_1 l0_1.length l0_1) (hc0_1 : l0_1.length ≤ c0_1) (h : impl_Order_mirror.f k a0_0 l0_1 = some (r1,r2)) :
 Calls Tryd.prog 113 #[.agg #[.int .i64 a0_0,.slice A0_1 l0_1.length c0_1]] w fun e w'=>∃ v1_ : Value,e = .returned (.agg #[.int .i64 r1,v1_]) ∧ Kd.R (Kd.int .i64) 3 w' w.heap.size (fun _=>True) v1_ r2 ∧ Below w.heap.size w w':=by
 have hu28:=Tryd.underlying28;have HR0_1:=A_ hr0_1;have HC0_1:=A_ hc0_1;clear hr0_1 hc0_1;have HB:=A_ (Below.refl w.heap.size w);have H : ((impl_relation.f k a0_0 (fun x0_ x1_=>impl_Order_mirror_1.f x0_ x1_ a0_0 l0_1)).bind fun bt294=>(some (bt294.1,bt294.2))) = some (r1,r2):=h;clear h;replace H:=Option.bind_eq_some_iff.mp H;obtain ⟨⟨t294,t295⟩,A20,H⟩:=H;replace H : (some (t294,t295)) = some (r1,r2):=H;have A2:=A_ A20;clear A20;simp only [Option.some.injEq,Prod.mk.injEq] at H
 obtain ⟨rfl,rfl⟩:=H;go_enter Tryd.func113,Tryd.ntmps113
 go_wp2_with (first|((with_reducible refine gate_dst (N:=1) rfl ?_);refine box_event ?hg (N:=1) ?hd (cs:=#[.int .i64 a0_0,.slice A0_1 l0_1.length c0_1]) (t:=28) ?hr ?_;(case hd=>rfl);(case hg=>rfl);(case hr=>first|(go_simp;done)|(go_simp;rfl));intro gb292 hg w3 hbox hb;have BK292:=A_ (hbox);have GW292:=A_ ((by rw [hg];exact (below_size bb_) : w.heap.size ≤ gb292));have GE292:=A_ ((by rw [hg];exact (below_size bb_) : w.heap.size ≤ gb292));replace HB:=A_ (below_step bb_ hb);clear hb hbox hg)|((with_reducible refine gate_dst (N:=2) rfl ?_);refine box_event ?hg (N:=2) ?hd (cs:=#[.int .i64 0,.slice none 0 0]) (t:=28) ?hr ?_;(case hd=>rfl);(case hg=>rfl);(case hr=>first|(go_simp;done)|(go_simp;rfl));intro gb293 hg w4 hbox hb;have BK293:=A_ (hbox);have GW293:=A_ ((by rw [hg];exact (below_size bb_) : w.heap.size ≤ gb293));have GE293:=A_ ((by rw [hg];exact (below_size bb_) : w.heap.size ≤ gb293));replace HB:=A_ (below_step bb_ hb);have NB292_293:=A_ ((by rw [hg];exact Nat.ne_of_lt (blk_lt (bl_ BK292)) : gb292 ≠ gb293));have NB293_292:=A_ ((by rw [hg];exact Nat.ne_of_gt (blk_lt (bl_ BK292)) : gb293 ≠ gb292));replace BK292:=bz BK292 hb;clear hb hbox hg;have hnb5:=NB292_293.out;have hnc5:=NB293_292.out;have hcz6_0 : w4.cell? ⟨gb292,0,none⟩ = some (.int .i64 a0_0):=blk_cell BK292.out 0;have hcz6_1 : w4.cell? ⟨gb292,1,none⟩ = some (.slice A0_1 l0_1.length c0_1):=blk_cell BK292.out 1;have hfz6_0:=blk_frozen BK292.out 0;have hfz6_1:=blk_frozen BK292.out 1)|((with_reducible refine gate_callee (f:=114) rfl ?_);refine goesL_ (some 6) rfl rfl Tryd.func114 (by kernel_rfl) rfl #[.int .i64 a0_0,.func (.func 195) #[] #[.pointer (some ⟨gb292,0,none⟩)]] rfl au_ ?_;(with_reducible refine (impl_relation.calls k a0_0 (fun x0_ x1_=>impl_Order_mirror_1.f x0_ x1_ a0_0 l0_1) t294 t295 _ _ _ ?side1 ?side2 A2.out).mono ?_);(case side1=>exact fun a_ w_=>enters_of Tryd.func195 (by kernel_rfl) rfl a_ w_);(case side2=>(intro W_ x0_ x1_ r_ hB_ h_;refine Calls.mono (impl_Order_mirror_1.calls x0_ x1_ gb292 a0_0 _ _ l0_1 r_ W_ (blk_below (g:=gb292) (o:=.cells #[.int .i64 a0_0,.slice A0_1 l0_1.length c0_1] 28 (0,0)) (bl_ BK292) hB_) (Kd.C_below (by exact cl_ (Kd.C_below HR0_1.out HB.out)) hB_) (by exact HC0_1.out) h_) ?_;rintro e_ w_ ⟨h1_,h2_⟩;exact ⟨h1_,h2_⟩));rintro e w7 ⟨v296,rfl,ho0,hb⟩;refine ⟨_,rfl,?_⟩;have HO297:=A_ (Kd.R_lower ho0 (below_size bb_));replace BK292:=bz BK292 hb;replace BK293:=bz BK293 hb;replace HB:=A_ (below_step bb_ hb);(try clear hb);(try clear hb2);(try clear hk);(try clear hi);(try clear ho0);have hcz8_0 : w7.cell? ⟨gb293,0,none⟩ = some (.int .i64 0):=blk_cell BK293.out 0;have hcz8_1 : w7.cell? ⟨gb293,1,none⟩ = some (.slice none 0 0):=blk_cell BK293.out 1;have hfz8_0:=blk_frozen BK293.out 0;have hfz8_1:=blk_frozen BK293.out 1;obtain ⟨Ao9,co9,eo9⟩:=Kd.R_slice HO297.out;subst eo9))
 refine bodyPost_ret (results_cell_row rfl _ _ gb293 28 #[.int .i64 t294,.slice Ao9 t295.length co9] (0,0) _ rfl (by (with_reducible repeat (first|refine blk_drewN ?_ _|refine blk_drew ?_|refine blk_alloc ?_ _));refine blk_put (cs:=#[.int .i64 t294,.slice none 0 0]) ?_ 1 _ rfl;(with_reducible repeat (first|refine blk_drewN ?_ _|refine blk_drew ?_|refine blk_alloc ?_ _));refine blk_put (cs:=#[.int .i64 0,.slice none 0 0]) ?_ 0 _ rfl;(with_reducible repeat (first|refine blk_drewN ?_ _|refine blk_drew ?_|refine blk_alloc ?_ _));exact BK293.out) Tryd.underlying28 rfl (by kernel_rfl)) rfl ?_
 exact ⟨_,by first|rfl|(simp [errW_none,errW_some] <;> rfl)|(simp [*,errW_none,errW_some] <;> rfl),by (with_reducible repeat (first|apply Kd.R_alloc|apply Kd.R_drewN|apply Kd.R_drew));exact Kd.R_mono (Kd.R_far (p:=⟨gb293,1,none⟩) (Kd.R_far (p:=⟨gb293,0,none⟩) (Kd.R_types HO297.out BK293.out (by decide)) (fun _ hk=>hk.2) (.int .i64 t294)) (fun _ hk=>hk.2) (.slice Ao9 t295.length co9)) (fun _ hk=>trivial),bb_⟩
end Go.Proofs.YtimjblnglhmakaaDoor.P
namespace Go.Proofs.YtimjblnglhmakaaDoor.HD
open Go.RowKit Go.Shelf Go.Maps Go.Sort Go.Proofs.YtimjblnglhmakaaDoorW.PrintMore Go.Proofs.YtimjblnglhmakaaDoorW.PrintLast Go.Proofs.YtimjblnglhmakaaDoorW.PrintWords
attribute [local go_sem] Oper.semAt_some
def sortL_ren : Go.Shelf.Ren := ⟨fun | 5 => 190 | 8 => 232 | 7 => 231 | 19 => 264 | 20 => 265 | 10 => 256 | 11 => 257 | 12 => 258 | 13 => 259 | 14 => 260 | 15 => 261 | 16 => 251 | 17 => 262 | 18 => 263 | 30 => 280 | 31 => 281 | 32 => 282 | 33 => 283 | 34 => 284 | 35 => 279 | 40 => 299 | n => n, fun | 23 => 22 | 25 => 3 | 3 => 3 | 32 => 126 | 22 => 22 | 0 => 0 | 44 => 145 | 46 => 101 | 4 => 4 | 36 => 157 | 35 => 156 | 41 => 50 | 5 => 5 | 9 => 9 | 53 => 173 | 57 => 177 | 63 => 196 | 64 => 68 | n => n, fun | n => n⟩
theorem sortL : Go.Proofs.SlLaysM.n5 Tryd.prog sortL_ren := {
  mixed := by kernel_rfl,
  f5 := ⟨Tryd.f190.name, by decide, Tryd.func190.trans (congrArg some (by kernel_rfl))⟩,
  f7 := ⟨Tryd.f231.name, by decide, Tryd.func231.trans (congrArg some (by kernel_rfl))⟩,
  f8 := Tryd.func232.trans (congrArg some (by kernel_rfl)),
  f10 := ⟨Tryd.f256.name, by decide, Tryd.func256.trans (congrArg some (by kernel_rfl))⟩,
  f11 := ⟨Tryd.f257.name, by decide, Tryd.func257.trans (congrArg some (by kernel_rfl))⟩,
  f12 := ⟨Tryd.f258.name, by decide, Tryd.func258.trans (congrArg some (by kernel_rfl))⟩,
  f13 := ⟨Tryd.f259.name, by decide, Tryd.func259.trans (congrArg some (by kernel_rfl))⟩,
  f14 := ⟨Tryd.f260.name, by decide, Tryd.func260.trans (congrArg some (by kernel_rfl))⟩,
  f15 := ⟨Tryd.f261.name, by decide, Tryd.func261.trans (congrArg some (by kernel_rfl))⟩,
  f16 := ⟨Tryd.f251.name, by decide, Tryd.func251.trans (congrArg some (by kernel_rfl))⟩,
  f17 := ⟨Tryd.f262.name, by decide, Tryd.func262.trans (congrArg some (by kernel_rfl))⟩,
  f18 := ⟨Tryd.f263.name, by decide, Tryd.func263.trans (congrArg some (by kernel_rfl))⟩,
  f19 := Tryd.func264.trans (congrArg some (by kernel_rfl)),
  f20 := Tryd.func265.trans (congrArg some (by kernel_rfl)),
  f30 := ⟨Tryd.f280.name, by decide, Tryd.func280.trans (congrArg some (by kernel_rfl))⟩,
  f31 := Tryd.func281.trans (congrArg some (by kernel_rfl)),
  f32 := Tryd.func282.trans (congrArg some (by kernel_rfl)),
  f33 := ⟨Tryd.f283.name, by decide, Tryd.func283.trans (congrArg some (by kernel_rfl))⟩,
  f34 := ⟨Tryd.f284.name, by decide, Tryd.func284.trans (congrArg some (by kernel_rfl))⟩,
  f35 := ⟨Tryd.f279.name, by decide, Tryd.func279.trans (congrArg some (by kernel_rfl))⟩,
  f40 := ⟨Tryd.f299.name, by decide, Tryd.func299.trans (congrArg some (by kernel_rfl))⟩,
  t0 := Tryd.underlying0,
  a0 := Tryd.isAgg0,
  z0 := Tryd.sizeOf0,
  v0 := Tryd.zeroValue0,
  t3 := Tryd.underlying3,
  a3 := Tryd.isAgg3,
  z3 := Tryd.sizeOf3,
  v3 := Tryd.zeroValue3,
  t4 := Tryd.underlying4,
  a4 := Tryd.isAgg4,
  z4 := Tryd.sizeOf4,
  v4 := Tryd.zeroValue4,
  t5 := Tryd.underlying5,
  a5 := Tryd.isAgg5,
  z5 := Tryd.sizeOf5,
  v5 := Tryd.zeroValue5,
  t9 := Tryd.underlying9,
  a9 := Tryd.isAgg9,
  z9 := Tryd.sizeOf9,
  v9 := Tryd.zeroValue9,
  t22 := Tryd.underlying22,
  a22 := Tryd.isAgg22,
  z22 := Tryd.sizeOf22,
  v22 := Tryd.zeroValue22,
  t23 := Tryd.underlying22,
  a23 := Tryd.isAgg22,
  z23 := Tryd.sizeOf22,
  v23 := Tryd.zeroValue22,
  t25 := Tryd.underlying3,
  a25 := Tryd.isAgg3,
  z25 := Tryd.sizeOf3,
  v25 := Tryd.zeroValue3,
  t32 := Tryd.underlying126,
  a32 := Tryd.isAgg126,
  z32 := Tryd.sizeOf126,
  v32 := Tryd.zeroValue126,
  t35 := Tryd.underlying156,
  a35 := Tryd.isAgg156,
  z35 := Tryd.sizeOf156,
  v35 := Tryd.zeroValue156,
  t36 := Tryd.underlying157,
  a36 := Tryd.isAgg157,
  z36 := Tryd.sizeOf157,
  v36 := Tryd.zeroValue157,
  t41 := Tryd.underlying50,
  a41 := Tryd.isAgg50,
  z41 := Tryd.sizeOf50,
  v41 := Tryd.zeroValue50,
  t44 := Tryd.underlying145,
  a44 := Tryd.isAgg145,
  z44 := Tryd.sizeOf145,
  v44 := Tryd.zeroValue145,
  t46 := Tryd.underlying101,
  a46 := Tryd.isAgg101,
  z46 := Tryd.sizeOf101,
  v46 := Tryd.zeroValue101,
  t53 := Tryd.underlying173,
  a53 := Tryd.isAgg173,
  z53 := Tryd.sizeOf173,
  v53 := Tryd.zeroValue173,
  t57 := Tryd.underlying177,
  a57 := Tryd.isAgg177,
  z57 := Tryd.sizeOf177,
  v57 := Tryd.zeroValue177,
  t63 := Tryd.underlying196,
  a63 := Tryd.isAgg196,
  z63 := Tryd.sizeOf196,
  v63 := Tryd.zeroValue196,
  t64 := Tryd.underlying68,
  a64 := Tryd.isAgg68,
  z64 := Tryd.sizeOf68,
  v64 := Tryd.zeroValue68 }
def compactL_ren : Go.Shelf.Ren := ⟨fun | 43 => 233 | n => n, fun | 22 => 22 | 23 => 3 | 3 => 3 | 4 => 4 | 0 => 0 | n => n, fun | n => n⟩
theorem compactL : Go.Proofs.SlLaysN.n43 Tryd.prog compactL_ren := {
  mixed := by kernel_rfl,
  f43 := ⟨Tryd.f233.name, by decide, Tryd.func233.trans (congrArg some (by kernel_rfl))⟩,
  t0 := Tryd.underlying0,
  a0 := Tryd.isAgg0,
  z0 := Tryd.sizeOf0,
  v0 := Tryd.zeroValue0,
  t3 := Tryd.underlying3,
  a3 := Tryd.isAgg3,
  z3 := Tryd.sizeOf3,
  v3 := Tryd.zeroValue3,
  t4 := Tryd.underlying4,
  a4 := Tryd.isAgg4,
  z4 := Tryd.sizeOf4,
  v4 := Tryd.zeroValue4,
  t22 := Tryd.underlying22,
  a22 := Tryd.isAgg22,
  z22 := Tryd.sizeOf22,
  v22 := Tryd.zeroValue22,
  t23 := Tryd.underlying3,
  a23 := Tryd.isAgg3,
  z23 := Tryd.sizeOf3,
  v23 := Tryd.zeroValue3,
  i23 := by kernel_rfl }
def searchL_ren : Go.Shelf.Ren := ⟨fun | 49 => 224 | 59 => 251 | 60 => 252 | 68 => 279 | n => n, fun | 22 => 22 | 23 => 3 | 3 => 3 | 4 => 4 | 51 => 126 | 0 => 0 | n => n, fun | n => n⟩
def upto {α : Type} (f : Nat → α) (k : Nat) : List α := (List.range k).map f
theorem upto_succ {α : Type} (f : Nat → α) (k : Nat) : upto f (k + 1) = upto f k ++ [f k] := by simp [upto, List.range_succ]
theorem upto_length {α : Type} (f : Nat → α) (k : Nat) : (upto f k).length = k := by simp [upto]
theorem upto_all (zs : List Int) : upto (fun j => zs[j]?.getD 0) zs.length = zs := by
  apply List.ext_getElem
  · simp [upto]
  · intro i h1 h2
    simp [upto, h2]
theorem upto_take (zs : List Int) {k : Nat} (hk : k ≤ zs.length) : upto (fun j => zs[j]?.getD 0) k = zs.take k := by
  apply List.ext_getElem
  · simp [upto, hk]
  · intro i h1 h2
    have : i < zs.length := by simp [upto] at h1; omega
    simp [upto, this]
set_option maxRecDepth 100000 in
set_option maxHeartbeats 2000000 in
theorem values1_in (F : Fence) (n : Nat) (h7 : F.fn 267) (hro : F.round = none) (hn : 1 ≤ n) (l Bs n₀ b off len cap : Nat) (zs : List Int) (hreach : len * 8 ≤ 140737488351232) (hb : b < n₀) (J Jx : List Int → World → Prop)
    (hY : ∀ pre x W, J pre W → pre.length < len → YieldAt F (n - 1) Tryd.prog l #[.int .i64 x] W fun e W' =>
      (e = .returned (.bool true) ∧ J (pre ++ [x]) W' ∧ Below n₀ W W') ∨ (e = .returned (.bool false) ∧ Jx (pre ++ [x]) W'))
    (W : World) (hBs : W.cell? ⟨Bs, 0, none⟩ = some (.slice (some ⟨b, off, none⟩) len cap)) (hc : ∀ j, j < len → W.cell? ⟨b, off + j, none⟩ = some (.int .i64 (zs[j]?.getD 0))) (h0 : J [] W) :
    CallsIn F n Tryd.prog 267 #[.func (.yield l) #[] #[], .pointer (some ⟨Bs, 0, none⟩)] W fun e W' => (∃ v, e = .returned v) ∧
      ((∃ ys, ys = upto (fun j => zs[j]?.getD 0) len ∧ J ys W') ∨ (∃ pre, (∃ k, k ≤ len ∧ pre = upto (fun j => zs[j]?.getD 0) k) ∧ Jx pre W')) := by
  refine callsIn_of_wp Tryd.func267 rfl h7 ?_ hro
  simp only [Tryd.ntmps267, List.size_toArray, List.length_cons, List.length_nil, Nat.reduceAdd, Nat.reduceSub, Array.replicate_succ, Array.replicate_zero, List.push_toArray, List.append_toArray, List.nil_append, List.cons_append]
  gi_wp2
  gi_loopw [7] (fun i wr => ∃ k : Nat, k ≤ len ∧ i = .int .i64 k ∧ J (upto (fun j => zs[j]?.getD 0) k) wr ∧ Below n₀ W wr)
    (fun i _ => len - (intOf i).toNat)
  case atStart => exact ⟨0, Nat.zero_le _, rfl, h0, Below.refl _ _⟩
  case round =>
    obtain ⟨k, hk, rfl, hJs, hnx⟩ := hrel
    have hcx : k < len → wr.cell? ⟨b, off + k, none⟩ = some (.int .i64 (zs[k]?.getD 0)) := fun h => (hnx.cell (p := ⟨b, off + k, none⟩) hb).trans (hc k h)
    by_cases hlt : k < len
    · obtain ⟨fn, tmps, assign, body, hy, hR⟩ := hY _ (zs[k]?.getD 0) wr hJs (by rw [upto_length]; exact hlt)
      have hcx' := hcx hlt
      gi_wp2
      refine hR.mono ?_
      rintro e W3 (⟨rfl, hJ3, hk3⟩ | ⟨rfl, hJx3⟩)
      · gi_wp2
        go_roundw
        case rel => exact ⟨k + 1, by omega, by simp, by rw [upto_succ]; exact hJ3, hnx.trans hk3⟩
        case measure => simp [intOf]; omega
      · gi_wp2
        refine bodyPost_ret (results_none rfl _ _ _) rfl ?_
        exact ⟨⟨_, rfl⟩, .inr ⟨_, ⟨k + 1, by omega, (upto_succ _ _).symm⟩, hJx3⟩⟩
    · obtain rfl : k = len := by omega
      gi_wp2
      go_end0
      exact ⟨⟨_, rfl⟩, .inl ⟨_, rfl, hJs⟩⟩
set_option maxRecDepth 100000 in
set_option maxHeartbeats 1000000 in
theorem values1_none_in (F : Fence) (n : Nat) (h7 : F.fn 267) (hro : F.round = none) (l Bs cap : Nat) (A : Option Addr) (J : List Int → World → Prop) (W : World) (hBs : W.cell? ⟨Bs, 0, none⟩ = some (.slice A 0 cap)) (h0 : J [] W) :
    CallsIn F n Tryd.prog 267 #[.func (.yield l) #[] #[], .pointer (some ⟨Bs, 0, none⟩)] W fun e W' => (∃ v, e = .returned v) ∧ J [] W' := by
  refine callsIn_of_wp Tryd.func267 rfl h7 ?_ hro
  simp only [Tryd.ntmps267, List.size_toArray, List.length_cons, List.length_nil, Nat.reduceAdd, Nat.reduceSub, Array.replicate_succ, Array.replicate_zero, List.push_toArray, List.append_toArray, List.nil_append, List.cons_append]
  gi_wp2
  gi_loopw [7] (fun i wr => i = .int .i64 0 ∧ J [] wr) (fun _ _ => 0)
  case atStart => exact ⟨rfl, h0⟩
  case round =>
    obtain ⟨rfl, hJs⟩ := hrel
    gi_wp2
    go_end0
    exact ⟨⟨_, rfl⟩, hJs⟩
def Ints (n₀ : Nat) (W : World) (sv : Value) (zs : List Int) : Prop :=
  (∃ A c, sv = .slice A 0 c ∧ zs = []) ∨ ∃ b off cap, sv = .slice (some ⟨b, off, none⟩) zs.length cap ∧ b < n₀ ∧ ∀ j, j < zs.length → W.cell? ⟨b, off + j, none⟩ = some (.int .i64 (zs[j]?.getD 0))
theorem Ints.below {n₀ : Nat} {A B : World} (h : Below n₀ A B) {sv : Value} {zs : List Int} : Ints n₀ A sv zs → Ints n₀ B sv zs
  | .inl e => .inl e
  | .inr ⟨b, off, cap, e, hb, hc⟩ => .inr ⟨b, off, cap, e, hb, fun j hj => (h.cell (p := ⟨b, off + j, none⟩) hb).trans (hc j hj)⟩
theorem values_stops (F : Fence) (n : Nat) (h7 : F.fn 267) (hro : F.round = none) (hn : 1 ≤ n) (Bs n₀ : Nat) (sv : Value) (zs : List Int) (hreach : zs.length * 8 ≤ 140737488351232) (w : World) (hBs : Bs < w.heap.size) (hn₀ : n₀ ≤ w.heap.size)
    (hc : w.cell? ⟨Bs, 0, none⟩ = some sv) (hI : Ints n₀ w sv zs) :
    SeqStopsK F n Tryd.prog 267 #[.pointer (some ⟨Bs, 0, none⟩)] (fun x : Int => #[Value.int .i64 x]) (Below n₀) (fun ys => ys = zs) (fun pre => pre <+: zs) zs.length w := fun l J Jx W hW _ _ hY h0 => by
  have hc' := (hW.cell (p := ⟨Bs, 0, none⟩) hBs).trans hc
  rcases hI.below (hW.mono hn₀) with ⟨A, c, rfl, rfl⟩ | ⟨b, off, cap, rfl, hb, hcs⟩
  · exact (values1_none_in F n h7 hro l Bs c A J W hc' h0).mono fun e W' ⟨he, hj⟩ => ⟨he, .inl ⟨_, rfl, hj⟩⟩
  · refine (values1_in F n h7 hro hn l Bs n₀ b off zs.length cap zs hreach hb J Jx hY W hc' hcs h0).mono ?_
    rintro e W' ⟨he, ⟨ys, rfl, hj⟩ | ⟨pre, ⟨k, hk, rfl⟩, hj⟩⟩
    · exact ⟨he, .inl ⟨_, upto_all zs, hj⟩⟩
    · exact ⟨he, .inr ⟨_, by rw [upto_take zs hk]; exact List.take_prefix _ _, hj⟩⟩
theorem values_calls (a : Option Addr) (len cap : Nat) (w : World) :
    Calls Tryd.prog 235 #[.slice a len cap] w fun e w' => e = .returned (.func (.func 267) #[] #[.pointer (some ⟨w.heap.size, 0, none⟩)]) ∧ w' = w.alloc (.cells #[.slice a len cap] 22) := by
  go_enter Tryd.func235, Tryd.ntmps235
  go_wp2
  go_ret
  exact ⟨rfl, rfl⟩
theorem infoI : (Tryd.prog.info? 3).map (fun i => (i.zero, i.size, i.bytes)) = some (some (.int .i64 0), 1, 8) := by kernel_rfl
set_option maxRecDepth 100000 in
set_option maxHeartbeats 2000000 in
theorem appendSeq_in (F : Fence) (n : Nat) (h3 : F.fn 285) (h5 : F.fn 267) (hro : F.round = none) (hn : 3 ≤ n) (Bv : Nat) (sv : Value) (zs : List Int) (hlen : zs.length ≤ maxLen) (hbytes : zs.length * 8 ≤ 140737488351232) (w : World) (hBv : Bv < w.heap.size) (hc : w.cell? ⟨Bv, 0, none⟩ = some sv) (hI : Ints w.heap.size w sv zs) :
    CallsIn F n Tryd.prog 285 #[.slice none 0 0, .func (.func 267) #[] #[.pointer (some ⟨Bv, 0, none⟩)]] w fun e W' => ∃ v, e = .returned v ∧ W'.ownsRow w.heap.size 3 1 v zs.length (zs.map (Value.int .i64)) ∧ (v = .slice none 0 0 ↔ zs = []) ∧ Below w.heap.size w W' := by
  have h1 : 1 ≤ n := by omega
  obtain ⟨i0, hi, hz0, hz1, hz2⟩ := info_parts infoI
  refine callsIn_of_wp_marks Tryd.func285 rfl h3 ?_ hro
  simp only [Tryd.ntmps285, List.size_toArray, List.length_cons, List.length_nil, Nat.reduceAdd, Nat.reduceSub, Array.replicate_succ, Array.replicate_zero, List.push_toArray, List.append_toArray, List.nil_append, List.cons_append]
  gi_wp2
  have bO := Boxed.new w 22 (.slice none 0 0)
  have hB0 : Below w.heap.size w (w.alloc (.cells #[.slice none 0 0] 22)) := (Below.refl _ w).alloc (Nat.le_refl _) _
  refine wpIn_rangeFunc_ownG hro h1 (gf := 267) (lb := #[.pointer (some ⟨Bv, 0, none⟩)]) rfl h5 (enters_of Tryd.func267 (by kernel_rfl) rfl)
    (values_stops F (n - 1) h5 hro (by omega) Bv w.heap.size sv zs hbytes _ (by simp; omega) (by simp) ((hB0.cell (p := ⟨Bv, 0, none⟩) hBv).trans hc) (hI.below hB0)) belowK_t (belowK_b (by simp)) (Below.refl _ _) (fun _ => rfl)
    (fun pre W => (∃ v, Boxed W w.heap.size 22 v ∧ W.ownsRow w.heap.size 3 1 v pre.length (pre.map (Value.int .i64)) ∧ (v = .slice none 0 0 ↔ pre = [])) ∧ Below w.heap.size w W)
    (fun _ _ _ => False)
    (OwnFrom.and (Own.from (holdsRow_own w.heap.size w.heap.size 22 3 1 (fun pre => pre.length) (fun pre => pre.map (Value.int .i64)) (fun pre v => v = .slice none 0 0 ↔ pre = [])) _) (ownFrom_below (Nat.le_refl _) (by simp)))
    (fun _ _ _ _ _ hs _ _ => hs)
    ⟨⟨_, bO, World.ownsRow_nil _ _ _ _, by simp⟩, hB0⟩
    (fun x => { tmps := #[.slice none 0 0, .func (.func 267) #[] #[.pointer (some ⟨Bv, 0, none⟩)], .pointer (some ⟨w.heap.size, 0, none⟩), undef, .slice none 0 0, .int .i64 x, .func (.func 267) #[] #[.pointer (some ⟨Bv, 0, none⟩)], .int .i64 x, undef, undef, undef, undef, undef], defers := [] }) ?assign ?body ?done ?stop
  case assign =>
    intro l x W K hK
    gi_wp2
    exact hK
  case body =>
    rintro l pre x W ⟨⟨v, hv, hrow, hnil⟩, hB⟩ hlt
    have hc := hv.cell
    gi_wp2_with (gi_at_builtin; refine wpListIn_append_own _ rfl _ _ 22 rfl w.heap.size 3 i0 (.int .i64 0) 1 8 Tryd.underlying22 hi hz0 hz1 hz2 rfl (by decide) _ _ _ rfl (hrow.alloc _) ⟨W.heap.size, 0, none⟩ 1 1 [.int .i64 x] rfl rfl (cell_one_new _ _ _) (by simp [Value.oneCell']) (by omega) (by omega) (by have := hB.size; simp; omega) ?_; intro v' w1 hown' hgrow _; obtain ⟨g', cap', rfl⟩ := ownsRow_succ hown'; obtain ⟨hv1, hv2, hr2, hk2, hb2⟩ := hv.appended (by decide) hrow hB.size (Nat.le_refl _) hown' hgrow; have hc1 := hv1.cell; have hf1 := hv1.frozen)
    exact ⟨hk2.from _, hb2, ⟨_, hv2, by simpa using hr2, by simp⟩, hB.trans hb2⟩
  case done =>
    rintro D ys W hD rfl ⟨⟨v, hv, hrow, hnil⟩, hB⟩ hK
    have hc := hv.cell
    gi_wp2
    refine ⟨by simp, .inl ⟨_, _, rfl, run_takeDeferred hK, ?_⟩⟩
    exact ⟨_, results_tmp rfl _ _ _, v, rfl, ownsRow_putObj hrow _ hK rfl, hnil, hB.trans (belowK_b (w := w) (Nat.le_refl _) W D _ _ (by simp at hD; omega) hK rfl rfl)⟩
  case stop =>
    intro D c pre W _ _ h _
    exact h.elim
theorem collect_calls (Bv : Nat) (sv : Value) (zs : List Int) (hlen : zs.length ≤ maxLen) (hbytes : zs.length * 8 ≤ 140737488351232) (w : World) (hBv : Bv < w.heap.size) (hc : w.cell? ⟨Bv, 0, none⟩ = some sv) (hI : Ints w.heap.size w sv zs) :
    Calls Tryd.prog 266 #[.func (.func 267) #[] #[.pointer (some ⟨Bv, 0, none⟩)]] w fun e W' => ∃ v, e = .returned v ∧ W'.ownsRow w.heap.size 3 1 v zs.length (zs.map (Value.int .i64)) ∧ (v = .slice none 0 0 ↔ zs = []) ∧ Below w.heap.size w W' := by
  have cA := (callsIn_wide (n := 3)).1 (appendSeq_in Fence.wide 3 trivial trivial rfl (Nat.le_refl _) Bv sv zs hlen hbytes w hBv hc hI)
  go_enter Tryd.func266, Tryd.ntmps266
  go_wp2_with (go_at_call 285; refine cA.mono ?_; rintro e w' ⟨v, rfl, hrow, hnil, hb⟩)
  go_ret
  exact ⟨v, rfl, hrow, hnil, hb⟩
def srt (l : List Int) : List Int := l.mergeSort fun x y => decide (x ≤ y)
theorem ownsRow_some {w : World} {base e : Nat} {v : Value} {zs : List Int} (h : w.ownsRow base e 1 v zs.length (zs.map (Value.int .i64))) : (v = .slice none 0 0 ∧ zs = []) ∨ ∃ g cap cur, v = .slice (some ⟨g, 0, none⟩) zs.length cap ∧ base ≤ g ∧ w.heap[g]? = some (.cells cur e (0, 0)) ∧ zs.length ≤ cap ∧ cap ≤ maxLen ∧ cur.size = cap * 1 ∧ cur.toList.take zs.length = zs.map encZ := by
  rcases h.2 with ⟨rfl, hz⟩ | ⟨g, cap, cur, rfl, h1, h2, h3, h4, h5, h6⟩
  · exact .inl ⟨rfl, List.eq_nil_of_length_eq_zero hz⟩
  · exact .inr ⟨g, cap, cur, rfl, h1, h2, h3, h4, h5, by simpa using h6⟩
theorem sort_calls {base e : Nat} {v : Value} {zs : List Int} {w : World} (h : w.ownsRow base e 1 v zs.length (zs.map (Value.int .i64))) (hsz : zs.length < 4611686018427387904) :
    Calls Tryd.prog 190 #[v] w fun e' w' => e' = .returned (.tuple #[]) ∧ w'.ownsRow base e 1 v (srt zs).length ((srt zs).map (Value.int .i64)) ∧ w.grownBy w' v.ownBlock := by
  rcases ownsRow_some h with ⟨rfl, rfl⟩ | ⟨g, cap, cur, rfl, hbase, hgb, r1, r2, r3, r4⟩
  · refine (AnyM.slices_Sort_int_none sortL none 0 w).mono ?_
    rintro e' w' ⟨rfl, rfl⟩
    exact ⟨rfl, by simpa [srt] using h, rfl, rfl, rfl, Nat.le_refl _, fun _ _ _ => rfl⟩
  · have hH : Holds encZ w g 0 zs.toArray := holds_of_block_i hgb r4
    refine (AnyM.slices_Sort_int sortL g 0 cap zs w hH (Array.getElem?_eq_some_iff.1 hgb).1 hsz).mono ?_
    rintro e' w' ⟨rfl, nn, os, rfl⟩
    have hl : (srt zs).length = zs.length := by simp [srt]
    refine ⟨rfl, ?_, grownBy_sorted_i _⟩
    rw [hl]
    exact ownsRow_sorted_i hl hbase hgb r1 r2 r3
theorem sorted_calls (Bv : Nat) (sv : Value) (zs : List Int) (hlen : zs.length ≤ maxLen) (hbytes : zs.length * 8 ≤ 140737488351232) (w : World) (hBv : Bv < w.heap.size) (hc : w.cell? ⟨Bv, 0, none⟩ = some sv) (hI : Ints w.heap.size w sv zs) :
    Calls Tryd.prog 234 #[.func (.func 267) #[] #[.pointer (some ⟨Bv, 0, none⟩)]] w fun e W' => ∃ v, e = .returned v ∧ W'.ownsRow w.heap.size 3 1 v (srt zs).length ((srt zs).map (Value.int .i64)) ∧ (v = .slice none 0 0 ↔ zs = []) ∧ Below w.heap.size w W' := by
  have cC := collect_calls Bv sv zs hlen hbytes w hBv hc hI
  go_enter Tryd.func234, Tryd.ntmps234
  go_wp2_with (first
    | (go_at_call 266; refine cC.mono ?_; rintro e w1 ⟨v, rfl, hrow, hnil, hb⟩)
    | (go_at_call 190; refine (sort_calls hrow (by omega)).mono ?_; rintro e w2 ⟨rfl, hrow2, hg⟩))
  go_ret
  exact ⟨v, rfl, hrow2, hnil, hb.grown hg hb.size (own_base hrow)⟩
theorem ownsRow_cut {w : World} {base e g cap : Nat} {n m : Nat} {xs : List Value} (h : w.ownsRow base e 1 (.slice (some ⟨g, 0, none⟩) n cap) n xs) (hm : m ≤ n) : w.ownsRow base e 1 (.slice (some ⟨g, 0, none⟩) m cap) m (xs.take m) := by
  obtain ⟨h0, h⟩ := h
  refine ⟨by rw [List.length_take]; omega, ?_⟩
  rcases h with ⟨h, _⟩ | ⟨g', cap', cur, hv, h1, h2, h3, h4, h5, h6⟩
  · cases h
  · injection hv with a1 a2 a3
    injection a1 with a1
    injection a1 with a1
    subst a1 a3
    refine .inr ⟨g, cap, cur, rfl, h1, h2, by omega, h4, h5, ?_⟩
    rw [← h6, List.take_take, Nat.min_eq_left (by omega)]
    simp
theorem compact_calls {base e : Nat} {v : Value} {zs : List Int} {w : World} (h : w.ownsRow base e 1 v zs.length (zs.map (Value.int .i64))) (hsz : zs.length ≤ 9223372036854775807) :
    Calls Tryd.prog 233 #[v] w fun e' w' => ∃ v', e' = .returned v' ∧ w'.ownsRow base e 1 v' (Lib.compact zs).length ((Lib.compact zs).map (Value.int .i64)) ∧ w.grownBy w' v.ownBlock := by
  rcases ownsRow_some h with ⟨rfl, rfl⟩ | ⟨g, cap, cur, rfl, hbase, hgb, r1, r2, r3, r4⟩
  · refine (AnyG.slices_Compact_int_empty compactL none 0 w).mono ?_
    rintro e' w' ⟨rfl, rfl⟩
    exact ⟨_, rfl, by simpa [Lib.compact, Lib.compactUpTo] using h, rfl, rfl, rfl, Nat.le_refl _, fun _ _ _ => rfl⟩
  · have hH : Holds encZ w g 0 zs.toArray := holds_of_block_i hgb r4
    refine (AnyG.slices_Compact_int compactL g 0 cap zs w hH hsz r1).mono ?_
    rintro e' w' ⟨rfl, q, rfl⟩
    have hle : (Lib.compact zs).length ≤ zs.length := by
      unfold Lib.compact Lib.compactUpTo
      have := List.length_filter_le (Lib.keeps zs.toArray) (List.range zs.length)
      simpa using this
    have hl : (Lib.compact zs ++ List.replicate (zs.length - (Lib.compact zs).length) 0).length = zs.length := by simp; omega
    have hrow := ownsRow_sorted_i (n := q) (os := #[]) hl hbase hgb r1 r2 r3
    have hg := grownBy_sorted_i (w := w) (g := g) (n := q) (os := #[]) (Lib.compact zs ++ List.replicate (zs.length - (Lib.compact zs).length) (0 : Int)).toArray
    have e0 : ∀ W : World, grow W #[] = W := fun W => by simp [grow]
    rw [e0] at hrow hg
    refine ⟨_, rfl, ?_, hg⟩
    have := ownsRow_cut hrow hle
    rwa [List.map_append, List.take_append_of_le_length (by simp), List.take_of_length_le (by simp)] at this
theorem R_int {e : Nat} {w : World} {base : Nat} {v : Value} {zs : List Int} (h : w.ownsRow base e 1 v zs.length (zs.map (Value.int .i64))) : Kd.R (Kd.int .i64) e w base (fun _ => True) v zs := by
  refine ⟨fun _ _ => trivial, zs.map (Value.int .i64), h, by simp [Kd.int, Kd.scalar], fun j p hj => ?_⟩
  show ((zs.map (Value.int .i64)).drop (j * 1)).take 1 = [Value.int .i64 p]
  have hl := (List.getElem?_eq_some_iff.1 hj).1
  rw [Nat.mul_one, List.drop_eq_getElem_cons (by simpa using hl)]
  have := (List.getElem?_eq_some_iff.1 hj).2
  simp [this]
theorem ints_of {w : World} {A : Option Addr} {c : Nat} {zs : List Int} (h : Kd.C (Kd.int .i64) w A zs.length zs) : Ints w.heap.size w (.slice A zs.length c) zs := by
  rcases Nat.eq_zero_or_pos zs.length with h0 | h0
  · have : zs = [] := List.eq_nil_of_length_eq_zero h0
    subst this
    exact .inl ⟨A, c, rfl, rfl⟩
  · obtain ⟨ad, rfl, hc⟩ := h.2.2 h0
    have cell : ∀ j (hj : j < zs.length), w.cell? (ad.add j) = some (.int .i64 zs[j]) := by
      intro j hj
      obtain ⟨cs, hl, hr, hcs⟩ := hc j zs[j] (List.getElem?_eq_getElem hj)
      have hr : cs = [Value.int .i64 zs[j]] := hr
      subst hr
      have := hcs 0 (.int .i64 zs[j]) rfl
      simpa [Kd.int, Kd.scalar] using this
    obtain ⟨b, off, sp⟩ := ad
    have c0 := cell 0 h0
    have hsp : sp = none := by
      cases sp with
      | none => rfl
      | some s =>
        simp only [World.cell?, Addr.add] at c0
        split at c0 <;> simp at c0
    subst hsp
    refine .inr ⟨b, off, c, rfl, World.block_lt_of_cell? w _ c0, fun j hj => ?_⟩
    have := cell j hj
    by_cases h1 : j = 0
    · subst h1
      simpa [Addr.add, hj] using this
    · simpa [Addr.add, hj, h1] using this
set_option maxHeartbeats 1000000 in
theorem different_calls (A0 : Option Addr) (c0 : Nat) (zs : List Int) (w : World) (hz : zs.length < 17592186043904) (h : Kd.C (Kd.int .i64) w A0 zs.length zs) :
    Calls Tryd.prog 196 #[.slice A0 zs.length c0] w fun e w' => ∃ v0_ : Value, e = .returned (v0_) ∧ Kd.R (Kd.int .i64) 3 w' w.heap.size (fun _ => True) v0_ (Lib.compact (srt zs)) ∧ Below w.heap.size w w' := by
  have hI := ints_of (c := c0) h
  have hB0 : Below w.heap.size w (w.alloc (.cells #[.slice A0 zs.length c0] 22)) := (Below.refl _ w).alloc (Nat.le_refl _) _
  have hs : w.heap.size + 1 = (w.alloc (.cells #[.slice A0 zs.length c0] 22)).heap.size := by simp
  have cS := sorted_calls w.heap.size (.slice A0 zs.length c0) zs (by unfold maxLen; omega) (by omega) (w.alloc (.cells #[.slice A0 zs.length c0] 22)) (by simp) (Boxed.new w 22 (.slice A0 zs.length c0)).cell (by
    have := hI.below hB0
    rcases this with h | ⟨b, off, cap, e, hb, hc⟩
    · exact .inl h
    · exact .inr ⟨b, off, cap, e, by omega, hc⟩)
  have hl : (srt zs).length = zs.length := by simp [srt]
  go_enter Tryd.func196, Tryd.ntmps196
  go_wp2_with (first
    | (go_at_call 235; refine (values_calls _ _ _ _).mono ?_; rintro e w1 ⟨rfl, rfl⟩)
    | (go_at_call 234; refine cS.mono ?_; rintro e w2 ⟨v, rfl, hrow, hnil, hb⟩)
    | (go_at_call 233; refine (compact_calls hrow (by omega)).mono ?_; rintro e w3 ⟨v2, rfl, hrow2, hg⟩))
  go_ret
  have hb' := hB0.trans (hb.mono (by omega : w.heap.size ≤ _))
  exact ⟨v2, rfl, R_int (own_weaken hrow2 (by omega)), hb'.grown hg hb'.size (fun k hk => Nat.le_trans (by omega) (own_base hrow k hk))⟩
end Go.Proofs.YtimjblnglhmakaaDoor.HD
namespace Go.Proofs.YtimjblnglhmakaaDoor.P
open Go.RowKit Go.Proofs.YtimjblnglhmakaaDoorW.PrintWords Go.Proofs.YtimjblnglhmakaaDoorW.PrintLast Go.Proofs.YtimjblnglhmakaaDoorW.PrintMore
open Bool renaming true → T, false → F
open List renaming setIfInBounds_toArray → L_, set_cons_zero → M_, set_cons_succ → N_, map_toArray → P_, map_cons → Q_, map_nil → R_, length_drop → S_, length_take → U_
open Aside0 renaming mk → A_
attribute [local go_sem] max2_int min2_int max_two min_two max_three min_three max_four min_four
set_option linter.unusedVariables false
set_option linter.unusedSimpArgs false
attribute [local go_sem] fldOrder_0 fldOrder_1
def impl_different.f (l0 : List Int) : Option (List Int) := if l0.length < 17592186043904 then some (Lib.compact (HD.srt l0)) else none
theorem impl_different.calls (A0 : Option Addr) (c0 : Nat) (l0 : List Int) (r : List Int) (w : World) (hr0 : Kd.C (Kd.int .i64) w A0 l0.length l0) (hc0 : l0.length ≤ c0) (h : impl_different.f l0 = some r) :
 Calls Tryd.prog 196 #[.slice A0 l0.length c0] w fun e w'=>∃ v0_ : Value,e = .returned (v0_) ∧ Kd.R (Kd.int .i64) 3 w' w.heap.size (fun _=>True) v0_ r ∧ Below w.heap.size w w':=by
 clear hc0;unfold impl_different.f at h
 split at h
 ·rename_i hz
  injection h with h;subst h;exact HD.different_calls A0 c0 l0 w hz hr0
 ·cases h
mutual
def impl_Order_levels.l0 : Nat → List Int → List Int → List Int → Int → Int → Option (List Int)
 | 0,_,_,_,_,_=>none
 | k + 1,x3,x5,x17,x18,x19=>if x19 < x18 then (if 0 ≤ x19 then (if x19 < (x17.length : Int) then (impl_Order_levels.l1 k x3 x5 (rd x17 x19) 0 x17 x18 x19 x5 (x5.length : Int) 0) else (none)) else (none)) else (some x3)
def impl_Order_levels.l1 : Nat → List Int → List Int → Int → Int → List Int → Int → Int → List Int → Int → Int → Option (List Int)
 | 0,_,_,_,_,_,_,_,_,_,_=>none
 | k + 1,x3,x5,x7,x8,x17,x18,x19,x23,x24,x25=>if x25 < x24 then (if 0 ≤ x25 then (if x25 < (x23.length : Int) then (if (rd x23 x25) = x7 then (impl_Order_levels.l1 k x3 x5 x7 x8 x17 x18 x19 x23 x24 (wrap64 (x25 + 1))) else (if (Go.bits .andNot .i64 (rd x23 x25) x7) = 0 then (impl_Order_levels.l1 k x3 x5 x7 (wrap64 (x8 + 1)) x17 x18 x19 x23 x24 (wrap64 (x25 + 1))) else (impl_Order_levels.l1 k x3 x5 x7 x8 x17 x18 x19 x23 x24 (wrap64 (x25 + 1))))) else (none)) else (none)) else (if x3.length < 17592186044416 then (impl_Order_levels.l0 k (x3 ++ [x8]) x5 x17 x18 (wrap64 (x19 + 1))) else (none))
end
def impl_Order_levels.f (k : Nat) (a0_0 : Int) (l0_1 : List Int) : Option (List Int) := (impl_Order_mirror.f k a0_0 l0_1).bind fun bt625 => ((impl_different.f bt625.2).bind fun t629 => (impl_Order_levels.l0 k (([] : List Int)) t629 bt625.2 (bt625.2.length : Int) 0))
set_option maxHeartbeats 8000000 in
set_option maxRecDepth 100000 in
theorem impl_Order_levels.calls (k : Nat) (a0_0 : Int) (A0_1 : Option Addr) (c0_1 : Nat) (l0_1 : List Int) (r : List Int) (w : World) (hr0_1 : Kd.C (Kd.int .i64) w A0_1 l0_1.length l0_1) (hc0_1 : l0_1.length ≤ c0_1) (h : impl_Order_levels.f k a0_0 l0_1 = some r) :
 Calls Tryd.prog 116 #[.agg #[.int .i64 a0_0,.slice A0_1 l0_1.length c0_1]] w fun e w'=>∃ v0_ : Value,e = .returned (v0_) ∧ Kd.R (Kd.int .i64) 3 w' w.heap.size (fun _=>True) v0_ r ∧ Below w.heap.size w w':=by
 have hu28:=Tryd.underlying28;have HR0_1:=A_ hr0_1;have HC0_1:=A_ hc0_1;clear hr0_1 hc0_1;have HB:=A_ (Below.refl w.heap.size w);have H : ((impl_Order_mirror.f k a0_0 l0_1).bind fun bt625=>((impl_different.f bt625.2).bind fun t629=>(impl_Order_levels.l0 k (([] : List Int)) t629 bt625.2 (bt625.2.length : Int) 0))) = some r:=h;clear h;obtain ⟨y622,hy622⟩ : ∃ y_ : List Int,y_ = (([] : List Int)):=⟨_,rfl⟩;replace H : ((impl_Order_mirror.f k a0_0 l0_1).bind fun bt625=>((impl_different.f bt625.2).bind fun t629=>(impl_Order_levels.l0 k y622 t629 bt625.2 (bt625.2.length : Int) 0))) = some r:=by first|(rw [hy622];with_reducible exact H)|(have H2_:=(Option.bind_some _ _).symm.trans H;rw [hy622];with_reducible exact H2_)|(have H2_:=(Option.bind_some _ _).symm.trans H;with_reducible exact H2_)|with_reducible exact H|(rw [hy622];exact H)|exact H
 have Ny622:=A_ hy622;clear hy622;replace H:=Option.bind_eq_some_iff.mp H;obtain ⟨⟨t625,t626⟩,A20,H⟩:=H;replace H : ((impl_different.f t626).bind fun t629=>(impl_Order_levels.l0 k y622 t629 t626 (t626.length : Int) 0)) = some r:=H;have A2:=A_ A20;clear A20;replace H:=Option.bind_eq_some_iff.mp H;obtain ⟨t629,A30,H⟩:=H;replace H : (impl_Order_levels.l0 k y622 t629 t626 (t626.length : Int) 0) = some r:=H;have A3:=A_ A30;clear A30;have H':=A_ H;clear H;go_enter Tryd.func116,Tryd.ntmps116
 go_wp2_with (first|((with_reducible refine gate_dst (N:=1) rfl ?_);refine box_event ?hg (N:=1) ?hd (cs:=#[.int .i64 a0_0,.slice A0_1 l0_1.length c0_1]) (t:=28) ?hr ?_;(case hd=>rfl);(case hg=>rfl);(case hr=>first|(go_simp;done)|(go_simp;rfl));intro gb621 hg w4 hbox hb;have BK621:=A_ (hbox);have GW621:=A_ ((by rw [hg];exact (below_size bb_) : w.heap.size ≤ gb621));have GE621:=A_ ((by rw [hg];exact (below_size bb_) : w.heap.size ≤ gb621));replace HB:=A_ (below_step bb_ hb);clear hb hbox hg)|((with_reducible refine gate_dst (N:=11) rfl ?_);refine Kd.R_lit (Kd.int .i64) _ 3 ?hg (N:=11) ?hd (xs:=([] : List Int)) (inner:=[]) (ok:=fun _=>True) (okp:=fun _=>True) ?hr ?hp (fun _ hk=>hk) trivial (Below.refl _ _) (Nat.le_refl _) (by simp) ?_;(case hd=>rfl);(case hg=>rfl);(case hr=>first|(go_simp;done)|(go_simp;rfl));(case hp=>exact (Reps.none _ _));intro v623 w5 ho6 hb hg_ hnew_;clear hg_ hnew_;(first|rw [← Ny622.out] at ho6|(simp only [Int.reduceToNat] at ho6;rw [← Ny622.out] at ho6));have HO624:=A_ (Kd.R_lower ho6 (below_size bb_));replace BK621:=bz BK621 hb;replace HB:=A_ (below_step bb_ hb);clear hb ho6;have hcz7_0 : w5.cell? ⟨gb621,0,none⟩ = some (.int .i64 a0_0):=blk_cell BK621.out 0;have hcz7_1 : w5.cell? ⟨gb621,1,none⟩ = some (.slice A0_1 l0_1.length c0_1):=blk_cell BK621.out 1;have hfz7_0:=blk_frozen BK621.out 0;have hfz7_1:=blk_frozen BK621.out 1)|((with_reducible refine gate_callee (f:=113) rfl ?_);refine goesL_ (some 13) rfl rfl Tryd.func113 (by kernel_rfl) rfl #[.agg #[.int .i64 a0_0,.slice A0_1 l0_1.length c0_1]] rfl au_ ?_;(with_reducible refine (impl_Order_mirror.calls k a0_0 _ _ l0_1 t625 t626 _ ?side1 ?side2 A2.out).mono ?_);(case side1=>exact cl_ (Kd.C_below HR0_1.out HB.out));(case side2=>exact HC0_1.out);rintro e w8 ⟨v627,rfl,ho0,hb⟩;refine ⟨_,rfl,?_⟩;have HO628:=A_ (Kd.R_lower (Kd.R_new' ho0 (Kd.R_lt (rl_ HO624))) (below_size bb_));replace HO624:=A_ (Kd.R_elder' (rl_ HO624) (Kd.R_base ho0) hb);replace BK621:=bz BK621 hb;replace HB:=A_ (below_step bb_ hb);(try clear hb);(try clear hb2);(try clear hk);(try clear hi);(try clear ho0);obtain ⟨Ao9,co9,eo9⟩:=Kd.R_slice HO628.out;subst eo9)|((with_reducible refine gate_callee (f:=196) rfl ?_);refine goesL_ (some 16) rfl rfl Tryd.func196 (by kernel_rfl) rfl #[.slice Ao9 t626.length co9] rfl au_ ?_;(with_reducible refine (impl_different.calls _ _ t626 t629 _ ?side1 ?side2 A3.out).mono ?_);(case side1=>exact cl_ (Kd.R_reads' HO628.out).2.2);(case side2=>exact (Kd.R_reads' HO628.out).2.1);rintro e w10 ⟨v630,rfl,ho0,hb⟩;refine ⟨_,rfl,?_⟩;have HO631:=A_ (Kd.R_lower (Kd.R_new' (Kd.R_new' ho0 (Kd.R_lt (rl_ HO624))) (Kd.R_lt (rl_ HO628))) (below_size bb_));replace HO624:=A_ (Kd.R_elder' (rl_ HO624) (Kd.R_base ho0) hb);replace HO628:=A_ (Kd.R_elder' (rl_ HO628) (Kd.R_base ho0) hb);replace BK621:=bz BK621 hb;replace HB:=A_ (below_step bb_ hb);(try clear hb);(try clear hb2);(try clear hk);(try clear hi);(try clear ho0)))
 go_loopg [3,19] k (fun kq v3 v19 w'=>∃ (x3_1 : List Int) (x19_1 : Int),v19 = .int .i64 x19_1 ∧ Aside0 (impl_Order_levels.l0 kq x3_1 t629 t626 (t626.length : Int) x19_1 = some r) ∧ Aside0 (kq ≤ k) ∧ Aside0 (Kd.R (Kd.int .i64) 3 w' w.heap.size (fun k_=>some k_ ≠ (v630 : Value).ownBlock ∧ some k_ ≠ ((.slice Ao9 t626.length co9) : Value).ownBlock) v3 x3_1) ∧ Aside0 (Kd.R (Kd.int .i64) 3 w' w.heap.size (fun k_=>some k_ ≠ (v3 : Value).ownBlock ∧ some k_ ≠ ((.slice Ao9 t626.length co9) : Value).ownBlock) v630 t629) ∧ Aside0 (Kd.R (Kd.int .i64) 3 w' w.heap.size (fun k_=>some k_ ≠ (v3 : Value).ownBlock ∧ some k_ ≠ (v630 : Value).ownBlock) (.slice Ao9 t626.length co9) t626) ∧ Aside0 (w'.heap[gb621]? = some (.cells #[.int .i64 a0_0,(.slice A0_1 l0_1.length c0_1)] 28 (0,0))) ∧ Aside0 (Below w.heap.size w w'))
 case atStart=>exact ⟨(y622),(0),(by first|rfl|(simp;done)|(simp [*];done)),H',⟨Nat.le_refl _⟩,⟨by (with_reducible repeat (first|apply Kd.R_alloc|apply Kd.R_drewN|apply Kd.R_drew));exact Kd.R_mono HO624.out (fun _ hk=>⟨hk.2,hk.1.2⟩)⟩,⟨by (with_reducible repeat (first|apply Kd.R_alloc|apply Kd.R_drewN|apply Kd.R_drew));exact Kd.R_mono HO631.out (fun _ hk=>⟨hk.1.2,hk.2⟩)⟩,⟨by (with_reducible repeat (first|apply Kd.R_alloc|apply Kd.R_drewN|apply Kd.R_drew));exact Kd.R_mono HO628.out (fun _ hk=>⟨hk.1.2,hk.2⟩)⟩,⟨bl_ BK621⟩,⟨bb_⟩⟩
 case round =>
  clear H';try clear c1
  try clear p2
  try clear hcz7_0
  try clear hcz7_1
  try clear hfz7_0
  try clear hfz7_1
  obtain ⟨x3_1,x19_1,rfl,HA,HK1,HO_3,HO_5,HO_17,BK621,HB⟩:=hrel;cases gk with
  | zero => exact absurd HA.out (by simp [impl_Order_levels.l0])
  | succ k1 =>
   have H:=HA.out;clear HA;simp only [impl_Order_levels.l0] at H
   by_cases c11 : x19_1 < (t626.length : Int)
   ·rw [if_pos c11] at H;have c11b0 : decide (x19_1 < (t626.length : Int)) = true:=decide_eq_true c11;clear c11;by_cases c12 : 0 ≤ x19_1
    ·rw [if_pos c12] at H;have c12b0 : decide (0 ≤ x19_1) = true:=decide_eq_true c12;clear c12;by_cases c13 : x19_1 < (t626.length : Int)
     ·rw [if_pos c13] at H;have c13b0 : decide (x19_1 < (t626.length : Int)) = true:=decide_eq_true c13;clear c13;have H':=A_ H;clear H;have p632 : 0 ≤ (x19_1 : Int):=of_decide_eq_true (by first|(with_reducible assumption)|assumption);have q632 : x19_1 < (t626.length : Int):=of_decide_eq_true (by first|(with_reducible assumption)|assumption);obtain ⟨ad632,e632,hx632_0⟩:=Kd.at_int (Kd.R_reads' HO_17.out).2.2 x19_1 p632 q632;cases e632
      replace p632:=eq_true p632;replace q632:=eq_true q632;obtain ⟨Ao14,co14,eo14⟩:=Kd.R_slice HO_5.out;subst eo14;go_wp2
      go_loopg [8,25] k1 (fun kq v8 v25 w'=>∃ (x8_2 : Int) (x25_2 : Int),v8 = .int .i64 x8_2 ∧ v25 = .int .i64 x25_2 ∧ Aside0 (impl_Order_levels.l1 kq x3_1 t629 (rd t626 x19_1) x8_2 t626 (t626.length : Int) x19_1 t629 (t629.length : Int) x25_2 = some r) ∧ Aside0 (kq ≤ k1) ∧ Aside0 (Kd.R (Kd.int .i64) 3 w' w.heap.size (fun k_=>some k_ ≠ ((.slice Ao14 t629.length co14) : Value).ownBlock ∧ some k_ ≠ ((.slice (some ad632) t626.length co9) : Value).ownBlock ∧ some k_ ≠ ((.slice Ao14 t629.length co14) : Value).ownBlock) u3 x3_1) ∧ Aside0 (Kd.R (Kd.int .i64) 3 w' w.heap.size (fun k_=>some k_ ≠ (u3 : Value).ownBlock ∧ some k_ ≠ ((.slice (some ad632) t626.length co9) : Value).ownBlock) (.slice Ao14 t629.length co14) t629) ∧ Aside0 (Kd.R (Kd.int .i64) 3 w' w.heap.size (fun k_=>some k_ ≠ (u3 : Value).ownBlock ∧ some k_ ≠ ((.slice Ao14 t629.length co14) : Value).ownBlock ∧ some k_ ≠ ((.slice Ao14 t629.length co14) : Value).ownBlock) (.slice (some ad632) t626.length co9) t626) ∧ Aside0 (Kd.R (Kd.int .i64) 3 w' w.heap.size (fun k_=>some k_ ≠ (u3 : Value).ownBlock ∧ some k_ ≠ ((.slice (some ad632) t626.length co9) : Value).ownBlock) (.slice Ao14 t629.length co14) t629) ∧ Aside0 (w'.heap[gb621]? = some (.cells #[.int .i64 a0_0,(.slice A0_1 l0_1.length c0_1)] 28 (0,0))) ∧ Aside0 (Below w.heap.size w w'))
      case atStart=>exact ⟨(0),(0),(by first|rfl|(simp;done)|(simp [*];done)),(by first|rfl|(simp;done)|(simp [*];done)),H',⟨Nat.le_refl _⟩,⟨by (with_reducible repeat (first|apply Kd.R_alloc|apply Kd.R_drewN|apply Kd.R_drew));exact Kd.R_mono HO_3.out (fun _ hk=>⟨hk.1,⟨hk.2,hk.1⟩⟩)⟩,⟨by (with_reducible repeat (first|apply Kd.R_alloc|apply Kd.R_drewN|apply Kd.R_drew));exact HO_5.out⟩,⟨by (with_reducible repeat (first|apply Kd.R_alloc|apply Kd.R_drewN|apply Kd.R_drew));exact Kd.R_mono HO_17.out (fun _ hk=>⟨hk.1,⟨hk.2,hk.2⟩⟩)⟩,⟨by (with_reducible repeat (first|apply Kd.R_alloc|apply Kd.R_drewN|apply Kd.R_drew));exact HO_5.out⟩,⟨bl_ BK621⟩,⟨bb_⟩⟩
      case round =>
       clear H';try clear c1
       try clear p2
       try clear p6
       try clear q6
       try clear hx6
       try clear c11
       try clear c11b0
       try clear c12
       try clear c12b0
       try clear c13
       try clear c13b0
       try clear hcz7_0
       try clear hcz7_1
       try clear hfz7_0
       try clear hfz7_1
       try clear hx632_0
       try clear p2
       try clear p632
       try clear q632
       obtain ⟨x8_2,x25_2,rfl,rfl,HA,HK2,HO_3,HO_5,HO_17,HO_23,BK621,HB⟩:=hrel;cases gk with
       | zero=>exact absurd HA.out (by simp [impl_Order_levels.l1])
       | succ k2 =>
        have H:=HA.out;clear HA;simp only [impl_Order_levels.l1] at H
        by_cases c15 : x25_2 < (t629.length : Int)
        ·rw [if_pos c15] at H;have c15b0 : decide (x25_2 < (t629.length : Int)) = true:=decide_eq_true c15;clear c15;by_cases c16 : 0 ≤ x25_2
         ·rw [if_pos c16] at H;have c16b0 : decide (0 ≤ x25_2) = true:=decide_eq_true c16;clear c16;by_cases c17 : x25_2 < (t629.length : Int)
          ·rw [if_pos c17] at H;have c17b0 : decide (x25_2 < (t629.length : Int)) = true:=decide_eq_true c17;clear c17;by_cases c18 : (rd t629 x25_2) = (rd t626 x19_1)
           ·rw [if_pos c18] at H;have c18b0 : ((rd t629 x25_2) == (rd t626 x19_1)) = true:=beq_iff_eq.mpr c18;have c18b1 : ((rd t629 x25_2) != (rd t626 x19_1)) = false:=bne_eq_false_iff_eq.mpr c18;clear c18;have H':=A_ H;clear H;have p633 : 0 ≤ (x25_2 : Int):=of_decide_eq_true (by first|(with_reducible assumption)|assumption);have q633 : x25_2 < (t629.length : Int):=of_decide_eq_true (by first|(with_reducible assumption)|assumption);obtain ⟨ad633,e633,hx633_0⟩:=Kd.at_int (Kd.R_reads' HO_23.out).2.2 x25_2 p633 q633;cases e633
            replace p633:=eq_true p633;replace q633:=eq_true q633;go_wp2
            go_roundg k2
            case measure=>have:=HK1.out;have:=HK2.out;omega
            case rel=>exact ⟨(x8_2),(wrap64 (x25_2 + 1)),(by first|rfl|(simp;done)|(simp [*];done)),(by first|rfl|(simp;done)|(simp [*];done)),H',⟨by have:=HK1.out;have:=HK2.out;omega⟩,⟨by (with_reducible repeat (first|apply Kd.R_alloc|apply Kd.R_drewN|apply Kd.R_drew));exact HO_3.out⟩,⟨by (with_reducible repeat (first|apply Kd.R_alloc|apply Kd.R_drewN|apply Kd.R_drew));exact HO_5.out⟩,⟨by (with_reducible repeat (first|apply Kd.R_alloc|apply Kd.R_drewN|apply Kd.R_drew));exact HO_17.out⟩,⟨by (with_reducible repeat (first|apply Kd.R_alloc|apply Kd.R_drewN|apply Kd.R_drew));exact HO_23.out⟩,⟨bl_ BK621⟩,⟨bb_⟩⟩
           ·rw [if_neg c18] at H;have c18b0 : ((rd t629 x25_2) == (rd t626 x19_1)) = false:=beq_eq_false_iff_ne.mpr c18;have c18b1 : ((rd t629 x25_2) != (rd t626 x19_1)) = true:=bne_iff_ne.mpr c18;by_cases c19 : (Go.bits .andNot .i64 (rd t629 x25_2) (rd t626 x19_1)) = 0
            ·rw [if_pos c19] at H;have c19b0 : ((Go.bits .andNot .i64 (rd t629 x25_2) (rd t626 x19_1)) == 0) = true:=beq_iff_eq.mpr c19;have c19b1 : ((Go.bits .andNot .i64 (rd t629 x25_2) (rd t626 x19_1)) != 0) = false:=bne_eq_false_iff_eq.mpr c19;clear c19;have H':=A_ H;clear H;have p633 : 0 ≤ (x25_2 : Int):=of_decide_eq_true (by first|(with_reducible assumption)|assumption);have q633 : x25_2 < (t629.length : Int):=of_decide_eq_true (by first|(with_reducible assumption)|assumption);obtain ⟨ad633,e633,hx633_0⟩:=Kd.at_int (Kd.R_reads' HO_23.out).2.2 x25_2 p633 q633;cases e633
             replace p633:=eq_true p633;replace q633:=eq_true q633;go_wp2
             go_roundg k2
             case measure=>have:=HK1.out;have:=HK2.out;omega
             case rel=>exact ⟨(wrap64 (x8_2 + 1)),(wrap64 (x25_2 + 1)),(by first|rfl|(simp;done)|(simp [*];done)),(by first|rfl|(simp;done)|(simp [*];done)),H',⟨by have:=HK1.out;have:=HK2.out;omega⟩,⟨by (with_reducible repeat (first|apply Kd.R_alloc|apply Kd.R_drewN|apply Kd.R_drew));exact HO_3.out⟩,⟨by (with_reducible repeat (first|apply Kd.R_alloc|apply Kd.R_drewN|apply Kd.R_drew));exact HO_5.out⟩,⟨by (with_reducible repeat (first|apply Kd.R_alloc|apply Kd.R_drewN|apply Kd.R_drew));exact HO_17.out⟩,⟨by (with_reducible repeat (first|apply Kd.R_alloc|apply Kd.R_drewN|apply Kd.R_drew));exact HO_23.out⟩,⟨bl_ BK621⟩,⟨bb_⟩⟩
            ·rw [if_neg c19] at H;have c19b0 : ((Go.bits .andNot .i64 (rd t629 x25_2) (rd t626 x19_1)) == 0) = false:=beq_eq_false_iff_ne.mpr c19;have c19b1 : ((Go.bits .andNot .i64 (rd t629 x25_2) (rd t626 x19_1)) != 0) = true:=bne_iff_ne.mpr c19;have H':=A_ H;clear H;have p633 : 0 ≤ (x25_2 : Int):=of_decide_eq_true (by first|(with_reducible assumption)|assumption);have q633 : x25_2 < (t629.length : Int):=of_decide_eq_true (by first|(with_reducible assumption)|assumption);obtain ⟨ad633,e633,hx633_0⟩:=Kd.at_int (Kd.R_reads' HO_23.out).2.2 x25_2 p633 q633;cases e633
             replace p633:=eq_true p633;replace q633:=eq_true q633;go_wp2
             go_roundg k2
             case measure=>have:=HK1.out;have:=HK2.out;omega
             case rel=>exact ⟨(x8_2),(wrap64 (x25_2 + 1)),(by first|rfl|(simp;done)|(simp [*];done)),(by first|rfl|(simp;done)|(simp [*];done)),H',⟨by have:=HK1.out;have:=HK2.out;omega⟩,⟨by (with_reducible repeat (first|apply Kd.R_alloc|apply Kd.R_drewN|apply Kd.R_drew));exact HO_3.out⟩,⟨by (with_reducible repeat (first|apply Kd.R_alloc|apply Kd.R_drewN|apply Kd.R_drew));exact HO_5.out⟩,⟨by (with_reducible repeat (first|apply Kd.R_alloc|apply Kd.R_drewN|apply Kd.R_drew));exact HO_17.out⟩,⟨by (with_reducible repeat (first|apply Kd.R_alloc|apply Kd.R_drewN|apply Kd.R_drew));exact HO_23.out⟩,⟨bl_ BK621⟩,⟨bb_⟩⟩
          ·rw [if_neg c17] at H;exact absurd H (by simp)
         ·rw [if_neg c16] at H;exact absurd H (by simp)
        ·rw [if_neg c15] at H;have c15b0 : decide (x25_2 < (t629.length : Int)) = false:=decide_eq_false c15;clear c15;by_cases c20 : x3_1.length < 17592186044416
         ·rw [if_pos c20] at H;have LMc20:=A_ c20;clear c20;obtain ⟨y634,hy634⟩ : ∃ y_ : List Int,y_ = (x3_1 ++ [x8_2]):=⟨_,rfl⟩;replace H : (impl_Order_levels.l0 k2 y634 t629 t626 (t626.length : Int) (wrap64 (x19_1 + 1))) = some r:=by first|(rw [hy634];with_reducible exact H)|(have H2_:=(Option.bind_some _ _).symm.trans H;rw [hy634];with_reducible exact H2_)|(have H2_:=(Option.bind_some _ _).symm.trans H;with_reducible exact H2_)|with_reducible exact H|(rw [hy634];exact H)|exact H
          have Ny634:=A_ hy634;clear hy634;have H':=A_ H;clear H;go_wp2_with (first|((with_reducible refine gate_builtin (b:=.append) (xs:=#[.tmp 41,.tmp 43]) rfl ?_);at_builtin;refine Kd.R_append (Kd.int .i64) (w0:=w) w.heap.size rfl (.tmp 41) (.tmp 43) 22 3 (.int .i64 0) 8 rfl Tryd.underlying22 info3 rfl (by decide) (by omega) u3 x3_1 x8_2 [.int .i64 x8_2] (fun k_=>some k_ ≠ (.slice Ao14 t629.length co14 : Value).ownBlock ∧ some k_ ≠ (.slice (some ad632) t626.length co9 : Value).ownBlock ∧ some k_ ≠ (.slice Ao14 t629.length co14 : Value).ownBlock) (fun _=>False) rfl rfl ?aP (fun _ hk=>hk.elim) ?aF ?aO ?aB ?aS ?aL ?_;(case aP=>exact rfl);(case aB=>exact bb_);(case aF=>exact (fun k_ hk=>⟨Kd.fresh' (Kd.R_lt (rl_ HO_5)) k_ hk,Kd.fresh' (Kd.R_lt (rl_ HO_17)) k_ hk,Kd.fresh' (Kd.R_lt (rl_ HO_23)) k_ hk⟩));(case aO=>exact (rl_ HO_3));(case aS=>exact (below_size bb_));(case aL=>have:=LMc20.out;omega);intro v635 w21 ho hb hg hat;rw [← Ny634.out] at ho;replace HO_5:=A_ (Kd.R_after (ok:=(fun k_=>some k_ ≠ (.slice (some ad632) t626.length co9 : Value).ownBlock)) (by (with_reducible repeat (first|apply Kd.R_alloc|apply Kd.R_drewN|apply Kd.R_drew));exact Kd.R_mono HO_5.out (fun _ hk=>⟨hk.2,hk.1⟩)) hg hat);replace HO_17:=A_ (Kd.R_after (ok:=(fun k_=>some k_ ≠ (.slice Ao14 t629.length co14 : Value).ownBlock ∧ some k_ ≠ (.slice Ao14 t629.length co14 : Value).ownBlock)) (by (with_reducible repeat (first|apply Kd.R_alloc|apply Kd.R_drewN|apply Kd.R_drew));exact Kd.R_mono HO_17.out (fun _ hk=>⟨⟨hk.2.1,hk.2.2⟩,hk.1⟩)) hg hat);replace HO_23:=A_ (Kd.R_after (ok:=(fun k_=>some k_ ≠ (.slice (some ad632) t626.length co9 : Value).ownBlock)) (by (with_reducible repeat (first|apply Kd.R_alloc|apply Kd.R_drewN|apply Kd.R_drew));exact Kd.R_mono HO_23.out (fun _ hk=>⟨hk.2,hk.1⟩)) hg hat);replace BK621:=A_ (blk_grown (g:=gb621) (o:=.cells #[.int .i64 a0_0,.slice A0_1 l0_1.length c0_1] 28 (0,0)) (bl_ BK621) hg (Kd.R_ne HO_3.out BK621.out (by decide)));replace HB:=A_ (hb);have HO636:=A_ (ho);clear HO_3;clear ho hb hg hat))
          go_roundg k2
          case measure=>have:=HK1.out;have:=HK2.out;omega
          case rel=>exact ⟨(y634),(wrap64 (x19_1 + 1)),(by first|rfl|(simp;done)|(simp [*];done)),H',⟨by have:=HK1.out;have:=HK2.out;omega⟩,⟨by (with_reducible repeat (first|apply Kd.R_alloc|apply Kd.R_drewN|apply Kd.R_drew));exact Kd.R_mono HO636.out (fun _ hk=>⟨hk.1,hk.2.1⟩)⟩,⟨by (with_reducible repeat (first|apply Kd.R_alloc|apply Kd.R_drewN|apply Kd.R_drew));exact Kd.R_mono HO_5.out (fun _ hk=>⟨hk.2,hk.1⟩)⟩,⟨by (with_reducible repeat (first|apply Kd.R_alloc|apply Kd.R_drewN|apply Kd.R_drew));exact Kd.R_mono HO_17.out (fun _ hk=>⟨hk.2,hk.1.1⟩)⟩,⟨bl_ BK621⟩,⟨bb_⟩⟩
         ·rw [if_neg c20] at H;exact absurd H (by simp)
     ·rw [if_neg c13] at H;exact absurd H (by simp)
    ·rw [if_neg c12] at H;exact absurd H (by simp)
   ·rw [if_neg c11] at H;have c11b0 : decide (x19_1 < (t626.length : Int)) = false:=decide_eq_false c11;clear c11;obtain rfl:=Option.some.inj H;go_wp2
    go_ret
    exact ⟨_,by first|rfl|(simp [errW_none,errW_some] <;> rfl)|(simp [*,errW_none,errW_some] <;> rfl),by (with_reducible repeat (first|apply Kd.R_alloc|apply Kd.R_drewN|apply Kd.R_drew));exact Kd.R_mono HO_3.out (fun _ hk=>trivial),bb_⟩
mutual
def impl_Order_ends.l0 : Nat → List (S62) → List Int → List Int → Int → Int → Int → List Int → Option ((List (S62)))
 | 0,_,_,_,_,_,_,_=>none
 | k + 1,x3,x4,x13,x14,x15,x1218000,x1218001=>if x15 < x14 then (if 0 ≤ x15 then (if x15 < (x13.length : Int) then (impl_Order_ends.l1 k x3 x4 x15 (rd x13 x15) (rd x13 x15) x13 x14 x15 x4 (x4.length : Int) 0 x1218000 x1218001) else (none)) else (none)) else (some x3)
def impl_Order_ends.l1 : Nat → List (S62) → List Int → Int → Int → Int → List Int → Int → Int → List Int → Int → Int → Int → List Int → Option ((List (S62)))
 | 0,_,_,_,_,_,_,_,_,_,_,_,_,_=>none
 | k + 1,x3,x4,x5,x6,x7,x13,x14,x15,x21,x22,x23,x1218000,x1218001=>if x23 < x22 then (if 0 ≤ x23 then (if x23 < (x21.length : Int) then ((impl_Order_better.f x1218000 x1218001 x5 x23).bind fun t1226=>(if t1226 = true then (impl_Order_ends.l1 k x3 x4 x5 x6 x7 x13 x14 x15 x21 x22 (wrap64 (x23 + 1)) x1218000 x1218001) else (impl_Order_ends.l1 k x3 x4 x5 x6 (mx x7 (rd x21 x23)) x13 x14 x15 x21 x22 (wrap64 (x23 + 1)) x1218000 x1218001))) else (none)) else (none)) else (if x3.length < 8796093022208 then (impl_Order_ends.l0 k (x3 ++ [(⟨x6,x7⟩ : S62)]) x4 x13 x14 (wrap64 (x15 + 1)) x1218000 x1218001) else (none))
end
def impl_Order_ends.f (k : Nat) (a0_0 : Int) (l0_1 : List Int) : Option ((List (S62))) := (impl_Order_levels.f k a0_0 l0_1).bind fun t1221 => (impl_Order_ends.l0 k (([] : List (S62))) t1221 t1221 (t1221.length : Int) 0 a0_0 l0_1)
set_option maxHeartbeats 8000000 in
set_option maxRecDepth 100000 in
theorem impl_Order_ends.calls (k : Nat) (a0_0 : Int) (A0_1 : Option Addr) (c0_1 : Nat) (l0_1 : List Int) (r : List (S62)) (w : World) (hr0_1 : Kd.C (Kd.int .i64) w A0_1 l0_1.length l0_1) (hc0_1 : l0_1.length ≤ c0_1) (h : impl_Order_ends.f k a0_0 l0_1 = some r) :
 Calls Tryd.prog 135 #[.agg #[.int .i64 a0_0,.slice A0_1 l0_1.length c0_1]] w fun e w'=>∃ v0_ : Value,e = .returned (v0_) ∧ Kd.R k62 62 w' w.heap.size (fun _=>True) v0_ r ∧ Below w.heap.size w w':=by
 have hu28:=Tryd.underlying28;have hu62:=Tryd.underlying62;have HR0_1:=A_ hr0_1;have HC0_1:=A_ hc0_1;clear hr0_1 hc0_1;have HB:=A_ (Below.refl w.heap.size w);have H : ((impl_Order_levels.f k a0_0 l0_1).bind fun t1221=>(impl_Order_ends.l0 k (([] : List (S62))) t1221 t1221 (t1221.length : Int) 0 a0_0 l0_1)) = some r:=h;clear h;obtain ⟨y1218,hy1218⟩ : ∃ y_ : List (S62),y_ = (([] : List (S62))):=⟨_,rfl⟩;replace H : ((impl_Order_levels.f k a0_0 l0_1).bind fun t1221=>(impl_Order_ends.l0 k y1218 t1221 t1221 (t1221.length : Int) 0 a0_0 l0_1)) = some r:=by first|(rw [hy1218];with_reducible exact H)|(have H2_:=(Option.bind_some _ _).symm.trans H;rw [hy1218];with_reducible exact H2_)|(have H2_:=(Option.bind_some _ _).symm.trans H;with_reducible exact H2_)|with_reducible exact H|(rw [hy1218];exact H)|exact H
 have Ny1218:=A_ hy1218;clear hy1218;replace H:=Option.bind_eq_some_iff.mp H;obtain ⟨t1221,A20,H⟩:=H;replace H : (impl_Order_ends.l0 k y1218 t1221 t1221 (t1221.length : Int) 0 a0_0 l0_1) = some r:=H;have A2:=A_ A20;clear A20;have H':=A_ H;clear H;go_enter Tryd.func135,Tryd.ntmps135
 go_wp2_with (first|((with_reducible refine gate_dst (N:=1) rfl ?_);refine box_event ?hg (N:=1) ?hd (cs:=#[.int .i64 a0_0,.slice A0_1 l0_1.length c0_1]) (t:=28) ?hr ?_;(case hd=>rfl);(case hg=>rfl);(case hr=>first|(go_simp;done)|(go_simp;rfl));intro gb1217 hg w3 hbox hb;have BK1217:=A_ (hbox);have GW1217:=A_ ((by rw [hg];exact (below_size bb_) : w.heap.size ≤ gb1217));have GE1217:=A_ ((by rw [hg];exact (below_size bb_) : w.heap.size ≤ gb1217));replace HB:=A_ (below_step bb_ hb);clear hb hbox hg)|((with_reducible refine gate_dst (N:=10) rfl ?_);refine Kd.R_lit k62 _ 62 ?hg (N:=10) ?hd (xs:=([] : List (S62))) (inner:=[]) (ok:=fun _=>True) (okp:=fun _=>True) ?hr ?hp (fun _ hk=>hk) trivial (Below.refl _ _) (Nat.le_refl _) (by simp) ?_;(case hd=>rfl);(case hg=>rfl);(case hr=>first|(go_simp;done)|(go_simp;rfl));(case hp=>exact (Reps.none _ _));intro v1219 w4 ho5 hb hg_ hnew_;clear hg_ hnew_;(first|rw [← Ny1218.out] at ho5|(simp only [Int.reduceToNat] at ho5;rw [← Ny1218.out] at ho5));have HO1220:=A_ (Kd.R_lower ho5 (below_size bb_));replace BK1217:=bz BK1217 hb;replace HB:=A_ (below_step bb_ hb);clear hb ho5;have hcz6_0 : w4.cell? ⟨gb1217,0,none⟩ = some (.int .i64 a0_0):=blk_cell BK1217.out 0;have hcz6_1 : w4.cell? ⟨gb1217,1,none⟩ = some (.slice A0_1 l0_1.length c0_1):=blk_cell BK1217.out 1;have hfz6_0:=blk_frozen BK1217.out 0;have hfz6_1:=blk_frozen BK1217.out 1)|((with_reducible refine gate_callee (f:=116) rfl ?_);refine goesL_ (some 12) rfl rfl Tryd.func116 (by kernel_rfl) rfl #[.agg #[.int .i64 a0_0,.slice A0_1 l0_1.length c0_1]] rfl au_ ?_;(with_reducible refine (impl_Order_levels.calls k a0_0 _ _ l0_1 t1221 _ ?side1 ?side2 A2.out).mono ?_);(case side1=>exact cl_ (Kd.C_below HR0_1.out HB.out));(case side2=>exact HC0_1.out);rintro e w7 ⟨v1222,rfl,ho0,hb⟩;refine ⟨_,rfl,?_⟩;replace HO1220:=rb_ HO1220 hb;have HO1223:=A_ (Kd.R_lower ho0 (below_size bb_));replace BK1217:=bz BK1217 hb;replace HB:=A_ (below_step bb_ hb);(try clear hb);(try clear hb2);(try clear hk);(try clear hi);(try clear ho0);obtain ⟨Ao8,co8,eo8⟩:=Kd.R_slice HO1223.out;subst eo8))
 go_loopg [3,15] k (fun kq v3 v15 w'=>∃ (x3_1 : List (S62)) (x15_1 : Int),v15 = .int .i64 x15_1 ∧ Aside0 (impl_Order_ends.l0 kq x3_1 t1221 t1221 (t1221.length : Int) x15_1 a0_0 l0_1 = some r) ∧ Aside0 (kq ≤ k) ∧ Aside0 (Kd.R k62 62 w' w.heap.size (fun _=>True) v3 x3_1) ∧ Aside0 (Kd.R (Kd.int .i64) 3 w' w.heap.size (fun _=>True) (.slice Ao8 t1221.length co8) t1221) ∧ Aside0 (Kd.R (Kd.int .i64) 3 w' w.heap.size (fun _=>True) (.slice Ao8 t1221.length co8) t1221) ∧ Aside0 (w'.heap[gb1217]? = some (.cells #[.int .i64 a0_0,(.slice A0_1 l0_1.length c0_1)] 28 (0,0))) ∧ Aside0 (Below w.heap.size w w'))
 case atStart=>exact ⟨(y1218),(0),(by first|rfl|(simp;done)|(simp [*];done)),H',⟨Nat.le_refl _⟩,⟨by (with_reducible repeat (first|apply Kd.R_alloc|apply Kd.R_drewN|apply Kd.R_drew));exact HO1220.out⟩,⟨by (with_reducible repeat (first|apply Kd.R_alloc|apply Kd.R_drewN|apply Kd.R_drew));exact HO1223.out⟩,⟨by (with_reducible repeat (first|apply Kd.R_alloc|apply Kd.R_drewN|apply Kd.R_drew));exact HO1223.out⟩,⟨bl_ BK1217⟩,⟨bb_⟩⟩
 case round =>
  clear H';try clear c1
  try clear p2
  try clear hcz6_0
  try clear hcz6_1
  try clear hfz6_0
  try clear hfz6_1
  obtain ⟨x3_1,x15_1,rfl,HA,HK1,HO_3,HO_4,HO_13,BK1217,HB⟩:=hrel;cases gk with
  | zero => exact absurd HA.out (by simp [impl_Order_ends.l0])
  | succ k1 =>
   have H:=HA.out;clear HA;simp only [impl_Order_ends.l0] at H
   by_cases c9 : x15_1 < (t1221.length : Int)
   ·rw [if_pos c9] at H;have c9b0 : decide (x15_1 < (t1221.length : Int)) = true:=decide_eq_true c9;clear c9;by_cases c10 : 0 ≤ x15_1
    ·rw [if_pos c10] at H;have c10b0 : decide (0 ≤ x15_1) = true:=decide_eq_true c10;clear c10;by_cases c11 : x15_1 < (t1221.length : Int)
     ·rw [if_pos c11] at H;have c11b0 : decide (x15_1 < (t1221.length : Int)) = true:=decide_eq_true c11;clear c11;have H':=A_ H;clear H;have p1224 : 0 ≤ (x15_1 : Int):=of_decide_eq_true (by first|(with_reducible assumption)|assumption);have q1224 : x15_1 < (t1221.length : Int):=of_decide_eq_true (by first|(with_reducible assumption)|assumption);obtain ⟨ad1224,e1224,hx1224_0⟩:=Kd.at_int (Kd.R_reads' HO_13.out).2.2 x15_1 p1224 q1224;cases e1224
      replace p1224:=eq_true p1224;replace q1224:=eq_true q1224;go_wp2
      go_loopg [7,23] k1 (fun kq v7 v23 w'=>∃ (x7_2 : Int) (x23_2 : Int),v7 = .int .i64 x7_2 ∧ v23 = .int .i64 x23_2 ∧ Aside0 (impl_Order_ends.l1 kq x3_1 t1221 x15_1 (rd t1221 x15_1) x7_2 t1221 (t1221.length : Int) x15_1 t1221 (t1221.length : Int) x23_2 a0_0 l0_1 = some r) ∧ Aside0 (kq ≤ k1) ∧ Aside0 (Kd.R k62 62 w' w.heap.size (fun _=>True) u3 x3_1) ∧ Aside0 (Kd.R (Kd.int .i64) 3 w' w.heap.size (fun _=>True) (.slice (some ad1224) t1221.length co8) t1221) ∧ Aside0 (Kd.R (Kd.int .i64) 3 w' w.heap.size (fun _=>True) (.slice (some ad1224) t1221.length co8) t1221) ∧ Aside0 (Kd.R (Kd.int .i64) 3 w' w.heap.size (fun _=>True) (.slice (some ad1224) t1221.length co8) t1221) ∧ Aside0 (w'.heap[gb1217]? = some (.cells #[.int .i64 a0_0,(.slice A0_1 l0_1.length c0_1)] 28 (0,0))) ∧ Aside0 (Below w.heap.size w w'))
      case atStart=>exact ⟨(rd t1221 x15_1),(0),(by first|rfl|(simp;done)|(simp [*];done)),(by first|rfl|(simp;done)|(simp [*];done)),H',⟨Nat.le_refl _⟩,⟨by (with_reducible repeat (first|apply Kd.R_alloc|apply Kd.R_drewN|apply Kd.R_drew));exact HO_3.out⟩,⟨by (with_reducible repeat (first|apply Kd.R_alloc|apply Kd.R_drewN|apply Kd.R_drew));exact HO_4.out⟩,⟨by (with_reducible repeat (first|apply Kd.R_alloc|apply Kd.R_drewN|apply Kd.R_drew));exact HO_13.out⟩,⟨by (with_reducible repeat (first|apply Kd.R_alloc|apply Kd.R_drewN|apply Kd.R_drew));exact HO_4.out⟩,⟨bl_ BK1217⟩,⟨bb_⟩⟩
      case round =>
       clear H';try clear c1
       try clear p1
       try clear q1
       try clear hx1
       try clear p2
       try clear c9
       try clear c9b0
       try clear c10
       try clear c10b0
       try clear c11
       try clear c11b0
       try clear hcz6_0
       try clear hcz6_1
       try clear hfz6_0
       try clear hfz6_1
       try clear hx1224_0
       try clear p1224
       try clear p2
       try clear q1224
       obtain ⟨x7_2,x23_2,rfl,rfl,HA,HK2,HO_3,HO_4,HO_13,HO_21,BK1217,HB⟩:=hrel;cases gk with
       | zero=>exact absurd HA.out (by simp [impl_Order_ends.l1])
       | succ k2 =>
        have H:=HA.out;clear HA;simp only [impl_Order_ends.l1] at H
        by_cases c12 : x23_2 < (t1221.length : Int)
        ·rw [if_pos c12] at H;have c12b0 : decide (x23_2 < (t1221.length : Int)) = true:=decide_eq_true c12;clear c12;by_cases c13 : 0 ≤ x23_2
         ·rw [if_pos c13] at H;have c13b0 : decide (0 ≤ x23_2) = true:=decide_eq_true c13;clear c13;by_cases c14 : x23_2 < (t1221.length : Int)
          ·rw [if_pos c14] at H;have c14b0 : decide (x23_2 < (t1221.length : Int)) = true:=decide_eq_true c14;clear c14;replace H:=Option.bind_eq_some_iff.mp H;obtain ⟨t1226,A150,H⟩:=H;replace H : (if t1226 = true then (impl_Order_ends.l1 k2 x3_1 t1221 x15_1 (rd t1221 x15_1) x7_2 t1221 (t1221.length : Int) x15_1 t1221 (t1221.length : Int) (wrap64 (x23_2 + 1)) a0_0 l0_1) else (impl_Order_ends.l1 k2 x3_1 t1221 x15_1 (rd t1221 x15_1) (mx x7_2 (rd t1221 x23_2)) t1221 (t1221.length : Int) x15_1 t1221 (t1221.length : Int) (wrap64 (x23_2 + 1)) a0_0 l0_1)) = some r:=H;have A15:=A_ A150;clear A150;by_cases c16 : t1226 = true
           ·subst c16;have H1 : (impl_Order_ends.l1 k2 x3_1 t1221 x15_1 (rd t1221 x15_1) x7_2 t1221 (t1221.length : Int) x15_1 t1221 (t1221.length : Int) (wrap64 (x23_2 + 1)) a0_0 l0_1) = some r:=by rw [if_pos rfl] at H;exact H
            clear H;have H:=H1;clear H1;have H':=A_ H;clear H;have p1225 : 0 ≤ (x23_2 : Int):=of_decide_eq_true (by first|(with_reducible assumption)|assumption);have q1225 : x23_2 < (t1221.length : Int):=of_decide_eq_true (by first|(with_reducible assumption)|assumption);obtain ⟨ad1225,e1225,hx1225_0⟩:=Kd.at_int (Kd.R_reads' HO_21.out).2.2 x23_2 p1225 q1225;obtain rfl : ad1224 = ad1225:=(by injection e1225);replace p1225:=eq_true p1225;replace q1225:=eq_true q1225;have hcz17_0 : wr.cell? ⟨gb1217,0,none⟩ = some (.int .i64 a0_0):=blk_cell BK1217.out 0;have hcz17_1 : wr.cell? ⟨gb1217,1,none⟩ = some (.slice A0_1 l0_1.length c0_1):=blk_cell BK1217.out 1;have hfz17_0:=blk_frozen BK1217.out 0;have hfz17_1:=blk_frozen BK1217.out 1;go_wp2_with (first|((with_reducible refine gate_callee (f:=146) rfl ?_);refine goesL_ (some 31) rfl rfl Tryd.func146 (by kernel_rfl) rfl #[.agg #[.int .i64 a0_0,.slice A0_1 l0_1.length c0_1],.int .i64 x15_1,.int .i64 x23_2] rfl au_ ?_;(with_reducible refine (impl_Order_better.calls a0_0 _ _ l0_1 x15_1 x23_2 true _ ?side1 ?side2 A15.out).mono ?_);(case side1=>exact cl_ (Kd.C_below HR0_1.out HB.out));(case side2=>exact HC0_1.out);rintro e w18 ⟨rfl,hb⟩;refine ⟨_,rfl,?_⟩;replace HO_3:=rb_ HO_3 hb;replace HO_4:=rb_ HO_4 hb;replace HO_13:=rb_ HO_13 hb;replace HO_21:=rb_ HO_21 hb;replace BK1217:=bz BK1217 hb;replace HB:=A_ (below_step bb_ hb);(try clear hb);(try clear hb2);(try clear hk);(try clear hi)))
            go_roundg k2
            case measure=>have:=HK1.out;have:=HK2.out;omega
            case rel=>exact ⟨(x7_2),(wrap64 (x23_2 + 1)),(by first|rfl|(simp;done)|(simp [*];done)),(by first|rfl|(simp;done)|(simp [*];done)),H',⟨by have:=HK1.out;have:=HK2.out;omega⟩,⟨by (with_reducible repeat (first|apply Kd.R_alloc|apply Kd.R_drewN|apply Kd.R_drew));exact HO_3.out⟩,⟨by (with_reducible repeat (first|apply Kd.R_alloc|apply Kd.R_drewN|apply Kd.R_drew));exact HO_4.out⟩,⟨by (with_reducible repeat (first|apply Kd.R_alloc|apply Kd.R_drewN|apply Kd.R_drew));exact HO_13.out⟩,⟨by (with_reducible repeat (first|apply Kd.R_alloc|apply Kd.R_drewN|apply Kd.R_drew));exact HO_21.out⟩,⟨bl_ BK1217⟩,⟨bb_⟩⟩
           ·replace c16:=Bool.eq_false_iff.mpr c16;subst c16;have H1 : (impl_Order_ends.l1 k2 x3_1 t1221 x15_1 (rd t1221 x15_1) (mx x7_2 (rd t1221 x23_2)) t1221 (t1221.length : Int) x15_1 t1221 (t1221.length : Int) (wrap64 (x23_2 + 1)) a0_0 l0_1) = some r:=by rw [if_neg (show ¬ (false = true) by decide)] at H;exact H
            clear H;have H:=H1;clear H1;obtain ⟨ji19,hji19⟩ : ∃ j_ : Int,(mx x7_2 (rd t1221 x23_2)) = j_:=⟨_,rfl⟩;replace H : (impl_Order_ends.l1 k2 x3_1 t1221 x15_1 (rd t1221 x15_1) ji19 t1221 (t1221.length : Int) x15_1 t1221 (t1221.length : Int) (wrap64 (x23_2 + 1)) a0_0 l0_1) = some r:=by first|(rw [hji19] at H;exact H)|(simp only [hji19] at H ⊢;exact H)
            (try rw [hji19] at A15);have hji19_ : (if x7_2 < (rd t1221 x23_2) then (rd t1221 x23_2) else x7_2) = ji19:=hji19;have H':=A_ H;clear H;have p1225 : 0 ≤ (x23_2 : Int):=of_decide_eq_true (by first|(with_reducible assumption)|assumption);have q1225 : x23_2 < (t1221.length : Int):=of_decide_eq_true (by first|(with_reducible assumption)|assumption);obtain ⟨ad1225,e1225,hx1225_0⟩:=Kd.at_int (Kd.R_reads' HO_21.out).2.2 x23_2 p1225 q1225;obtain rfl : ad1224 = ad1225:=(by injection e1225);replace p1225:=eq_true p1225;replace q1225:=eq_true q1225;have hcz20_0 : wr.cell? ⟨gb1217,0,none⟩ = some (.int .i64 a0_0):=blk_cell BK1217.out 0;have hcz20_1 : wr.cell? ⟨gb1217,1,none⟩ = some (.slice A0_1 l0_1.length c0_1):=blk_cell BK1217.out 1;have hfz20_0:=blk_frozen BK1217.out 0;have hfz20_1:=blk_frozen BK1217.out 1;go_wp2_with (first|((with_reducible refine gate_callee (f:=146) rfl ?_);refine goesL_ (some 31) rfl rfl Tryd.func146 (by kernel_rfl) rfl #[.agg #[.int .i64 a0_0,.slice A0_1 l0_1.length c0_1],.int .i64 x15_1,.int .i64 x23_2] rfl au_ ?_;(with_reducible refine (impl_Order_better.calls a0_0 _ _ l0_1 x15_1 x23_2 false _ ?side1 ?side2 A15.out).mono ?_);(case side1=>exact cl_ (Kd.C_below HR0_1.out HB.out));(case side2=>exact HC0_1.out);rintro e w21 ⟨rfl,hb⟩;refine ⟨_,rfl,?_⟩;replace HO_3:=rb_ HO_3 hb;replace HO_4:=rb_ HO_4 hb;replace HO_13:=rb_ HO_13 hb;replace HO_21:=rb_ HO_21 hb;replace BK1217:=bz BK1217 hb;replace HB:=A_ (below_step bb_ hb);(try clear hb);(try clear hb2);(try clear hk);(try clear hi)))
            go_roundg k2
            case measure=>have:=HK1.out;have:=HK2.out;omega
            case rel=>exact ⟨(ji19),(wrap64 (x23_2 + 1)),(by first|rfl|(simp;done)|(simp only [← hji19] <;> (first|rfl|simp))|(simp [*];done)),(by first|rfl|(simp;done)|(simp [*];done)),H',⟨by have:=HK1.out;have:=HK2.out;omega⟩,⟨by (with_reducible repeat (first|apply Kd.R_alloc|apply Kd.R_drewN|apply Kd.R_drew));exact HO_3.out⟩,⟨by (with_reducible repeat (first|apply Kd.R_alloc|apply Kd.R_drewN|apply Kd.R_drew));exact HO_4.out⟩,⟨by (with_reducible repeat (first|apply Kd.R_alloc|apply Kd.R_drewN|apply Kd.R_drew));exact HO_13.out⟩,⟨by (with_reducible repeat (first|apply Kd.R_alloc|apply Kd.R_drewN|apply Kd.R_drew));exact HO_21.out⟩,⟨bl_ BK1217⟩,⟨bb_⟩⟩
          ·rw [if_neg c14] at H;exact absurd H (by simp)
         ·rw [if_neg c13] at H;exact absurd H (by simp)
        ·rw [if_neg c12] at H;have c12b0 : decide (x23_2 < (t1221.length : Int)) = false:=decide_eq_false c12;clear c12;by_cases c22 : x3_1.length < 8796093022208
         ·rw [if_pos c22] at H;have LMc22:=A_ c22;clear c22;obtain ⟨y1227,hy1227⟩ : ∃ y_ : List (S62),y_ = (x3_1 ++ [(⟨(rd t1221 x15_1),x7_2⟩ : S62)]):=⟨_,rfl⟩;replace H : (impl_Order_ends.l0 k2 y1227 t1221 t1221 (t1221.length : Int) (wrap64 (x15_1 + 1)) a0_0 l0_1) = some r:=by first|(rw [hy1227];with_reducible exact H)|(have H2_:=(Option.bind_some _ _).symm.trans H;rw [hy1227];with_reducible exact H2_)|(have H2_:=(Option.bind_some _ _).symm.trans H;with_reducible exact H2_)|with_reducible exact H|(rw [hy1227];exact H)|exact H
          have Ny1227:=A_ hy1227;clear hy1227;have H':=A_ H;clear H;go_wp2_with (first|((with_reducible refine gate_builtin (b:=.append) (xs:=#[.tmp 37,.tmp 41]) rfl ?_);at_builtin;refine Kd.R_append k62 (w0:=w) w.heap.size rfl (.tmp 37) (.tmp 41) 52 62 (.agg #[(.int .i64 0),(.int .i64 0)]) 16 rfl Tryd.underlying52 info62 rfl (by decide) (by omega) u3 x3_1 (⟨(rd t1221 x15_1),x7_2⟩ : S62) [.int .i64 (rd t1221 x15_1),.int .i64 x7_2] (fun _=>True) (fun _=>False) rfl rfl ?aP (fun _ hk=>hk.elim) ?aF ?aO ?aB ?aS ?aL ?_;(case aP=>exact k62_mkM _ _ _ (⟨(rd t1221 x15_1),x7_2⟩ : S62));(case aB=>exact bb_);(case aF=>exact (fun _ _=>trivial));(case aO=>exact (rl_ HO_3));(case aS=>exact (below_size bb_));(case aL=>have:=LMc22.out;omega);intro v1228 w23 ho hb hg hat;rw [← Ny1227.out] at ho;replace HO_4:=A_ (Kd.R_over' (rl_ HO_4) (Kd.R_typed (rl_ HO_3)) (by decide) hg);replace HO_13:=A_ (Kd.R_over' (rl_ HO_13) (Kd.R_typed (rl_ HO_3)) (by decide) hg);replace HO_21:=A_ (Kd.R_over' (rl_ HO_21) (Kd.R_typed (rl_ HO_3)) (by decide) hg);replace BK1217:=A_ (blk_grown (g:=gb1217) (o:=.cells #[.int .i64 a0_0,.slice A0_1 l0_1.length c0_1] 28 (0,0)) (bl_ BK1217) hg (Kd.R_ne HO_3.out BK1217.out (by decide)));replace HB:=A_ (hb);have HO1229:=A_ (ho);clear HO_3;clear ho hb hg hat))
          go_roundg k2
          case measure=>have:=HK1.out;have:=HK2.out;omega
          case rel=>exact ⟨(y1227),(wrap64 (x15_1 + 1)),(by first|rfl|(simp;done)|(simp [*];done)),H',⟨by have:=HK1.out;have:=HK2.out;omega⟩,⟨by (with_reducible repeat (first|apply Kd.R_alloc|apply Kd.R_drewN|apply Kd.R_drew));exact HO1229.out⟩,⟨by (with_reducible repeat (first|apply Kd.R_alloc|apply Kd.R_drewN|apply Kd.R_drew));exact HO_4.out⟩,⟨by (with_reducible repeat (first|apply Kd.R_alloc|apply Kd.R_drewN|apply Kd.R_drew));exact HO_13.out⟩,⟨bl_ BK1217⟩,⟨bb_⟩⟩
         ·rw [if_neg c22] at H;exact absurd H (by simp)
     ·rw [if_neg c11] at H;exact absurd H (by simp)
    ·rw [if_neg c10] at H;exact absurd H (by simp)
   ·rw [if_neg c9] at H;have c9b0 : decide (x15_1 < (t1221.length : Int)) = false:=decide_eq_false c9;clear c9;obtain rfl:=Option.some.inj H;go_wp2
    go_ret
    exact ⟨_,by first|rfl|(simp [errW_none,errW_some] <;> rfl)|(simp [*,errW_none,errW_some] <;> rfl),by (with_reducible repeat (first|apply Kd.R_alloc|apply Kd.R_drewN|apply Kd.R_drew));exact HO_3.out,bb_⟩
def impl_EndsOf.f (k : Nat) (a0_0 : Int) (l0_1 : List Int) : Option ((List (S62)) × Bool) := (impl_isInterval.f k a0_0 l0_1).bind fun t1231 => (if t1231 = true then ((impl_Order_ends.f k a0_0 l0_1).bind fun t1232 => (some (t1232, true))) else (some (([] : List (S62)), false)))
set_option maxHeartbeats 8000000 in
set_option maxRecDepth 100000 in
theorem impl_EndsOf.calls (k : Nat) (a0_0 : Int) (A0_1 : Option Addr) (c0_1 : Nat) (l0_1 : List Int) (r1 : List (S62)) (r2 : Bool) (w : World) (hr0_1 : Kd.C (Kd.int .i64) w A0_1 l0_1.length l0_1) (hc0_1 : l0_1.length ≤ c0_1) (hT : TabOK w) (h : impl_EndsOf.f k a0_0 l0_1 = some (r1,r2)) :
 Calls Tryd.prog 48 #[.agg #[.int .i64 a0_0,.slice A0_1 l0_1.length c0_1]] w fun e w'=>∃ v0_ : Value,e = .returned (.tuple #[v0_,.bool r2]) ∧ Kd.R k62 62 w' w.heap.size (fun _=>True) v0_ r1 ∧ Below w.heap.size w w':=by
 have hu28:=Tryd.underlying28;have HT:=A_ hT;clear hT;have HR0_1:=A_ hr0_1;have HC0_1:=A_ hc0_1;clear hr0_1 hc0_1;have HB:=A_ (Below.refl w.heap.size w);have H : ((impl_isInterval.f k a0_0 l0_1).bind fun t1231=>(if t1231 = true then ((impl_Order_ends.f k a0_0 l0_1).bind fun t1232=>(some (t1232,true))) else (some (([] : List (S62)),false)))) = some (r1,r2):=h;clear h;replace H:=Option.bind_eq_some_iff.mp H;obtain ⟨t1231,A20,H⟩:=H;replace H : (if t1231 = true then ((impl_Order_ends.f k a0_0 l0_1).bind fun t1232=>(some (t1232,true))) else (some (([] : List (S62)),false))) = some (r1,r2):=H;have A2:=A_ A20;clear A20;by_cases c3 : t1231 = true
 ·subst c3;have H1 : ((impl_Order_ends.f k a0_0 l0_1).bind fun t1232=>(some (t1232,true))) = some (r1,r2):=by rw [if_pos rfl] at H;exact H
  clear H;have H:=H1;clear H1;replace H:=Option.bind_eq_some_iff.mp H;obtain ⟨t1232,A40,H⟩:=H;replace H : (some (t1232,true)) = some (r1,r2):=H;have A4:=A_ A40;clear A40;simp only [Option.some.injEq,Prod.mk.injEq] at H
  obtain ⟨rfl,rfl⟩:=H;go_enter Tryd.func48,Tryd.ntmps48
  go_wp2_with (first|((with_reducible refine gate_dst (N:=1) rfl ?_);refine box_event ?hg (N:=1) ?hd (cs:=#[.int .i64 a0_0,.slice A0_1 l0_1.length c0_1]) (t:=28) ?hr ?_;(case hd=>rfl);(case hg=>rfl);(case hr=>first|(go_simp;done)|(go_simp;rfl));intro gb1230 hg w5 hbox hb;have BK1230:=A_ (hbox);have GW1230:=A_ ((by rw [hg];exact (below_size bb_) : w.heap.size ≤ gb1230));have GE1230:=A_ ((by rw [hg];exact (below_size bb_) : w.heap.size ≤ gb1230));replace HB:=A_ (below_step bb_ hb);clear hb hbox hg;have hcz6_0 : w5.cell? ⟨gb1230,0,none⟩ = some (.int .i64 a0_0):=blk_cell BK1230.out 0;have hcz6_1 : w5.cell? ⟨gb1230,1,none⟩ = some (.slice A0_1 l0_1.length c0_1):=blk_cell BK1230.out 1;have hfz6_0:=blk_frozen BK1230.out 0;have hfz6_1:=blk_frozen BK1230.out 1)|((with_reducible refine gate_callee (f:=134) rfl ?_);refine goesL_ (some 5) rfl rfl Tryd.func134 (by kernel_rfl) rfl #[.agg #[.int .i64 a0_0,.slice A0_1 l0_1.length c0_1]] rfl au_ ?_;(with_reducible refine (impl_isInterval.calls k a0_0 _ _ l0_1 true _ ?side1 ?side2 ?side3 A2.out).mono ?_);(case side1=>exact cl_ (Kd.C_below HR0_1.out HB.out));(case side2=>exact HC0_1.out);(case side3=>first|exact HT.out|exact HT.out.below bb_|(repeat (first|exact HT.out|apply TabOK.drewN|apply TabOK.drew|apply TabOK.alloc)));rintro e w7 ⟨rfl,hb⟩;refine ⟨_,rfl,?_⟩;replace BK1230:=bz BK1230 hb;replace HB:=A_ (below_step bb_ hb);(try clear hb);(try clear hb2);(try clear hk);(try clear hi);have hcz8_0 : w7.cell? ⟨gb1230,0,none⟩ = some (.int .i64 a0_0):=blk_cell BK1230.out 0;have hcz8_1 : w7.cell? ⟨gb1230,1,none⟩ = some (.slice A0_1 l0_1.length c0_1):=blk_cell BK1230.out 1;have hfz8_0:=blk_frozen BK1230.out 0;have hfz8_1:=blk_frozen BK1230.out 1)|((with_reducible refine gate_callee (f:=135) rfl ?_);refine goesL_ (some 8) rfl rfl Tryd.func135 (by kernel_rfl) rfl #[.agg #[.int .i64 a0_0,.slice A0_1 l0_1.length c0_1]] rfl au_ ?_;(with_reducible refine (impl_Order_ends.calls k a0_0 _ _ l0_1 t1232 _ ?side1 ?side2 A4.out).mono ?_);(case side1=>exact cl_ (Kd.C_below HR0_1.out HB.out));(case side2=>exact HC0_1.out);rintro e w9 ⟨v1233,rfl,ho0,hb⟩;refine ⟨_,rfl,?_⟩;have HO1234:=A_ (Kd.R_lower ho0 (below_size bb_));replace BK1230:=bz BK1230 hb;replace HB:=A_ (below_step bb_ hb);(try clear hb);(try clear hb2);(try clear hk);(try clear hi);(try clear ho0)))
  go_ret2
  exact ⟨_,by first|rfl|(simp [errW_none,errW_some] <;> rfl)|(simp [*,errW_none,errW_some] <;> rfl),by (with_reducible repeat (first|apply Kd.R_alloc|apply Kd.R_drewN|apply Kd.R_drew));exact HO1234.out,bb_⟩
 ·replace c3:=Bool.eq_false_iff.mpr c3;subst c3;have H1 : (some (([] : List (S62)),false)) = some (r1,r2):=by rw [if_neg (show ¬ (false = true) by decide)] at H;exact H
  clear H;have H:=H1;clear H1;simp only [Option.some.injEq,Prod.mk.injEq] at H
  obtain ⟨rfl,rfl⟩:=H;go_enter Tryd.func48,Tryd.ntmps48
  go_wp2_with (first|((with_reducible refine gate_dst (N:=1) rfl ?_);refine box_event ?hg (N:=1) ?hd (cs:=#[.int .i64 a0_0,.slice A0_1 l0_1.length c0_1]) (t:=28) ?hr ?_;(case hd=>rfl);(case hg=>rfl);(case hr=>first|(go_simp;done)|(go_simp;rfl));intro gb1230 hg w10 hbox hb;have BK1230:=A_ (hbox);have GW1230:=A_ ((by rw [hg];exact (below_size bb_) : w.heap.size ≤ gb1230));have GE1230:=A_ ((by rw [hg];exact (below_size bb_) : w.heap.size ≤ gb1230));replace HB:=A_ (below_step bb_ hb);clear hb hbox hg;have hcz11_0 : w10.cell? ⟨gb1230,0,none⟩ = some (.int .i64 a0_0):=blk_cell BK1230.out 0;have hcz11_1 : w10.cell? ⟨gb1230,1,none⟩ = some (.slice A0_1 l0_1.length c0_1):=blk_cell BK1230.out 1;have hfz11_0:=blk_frozen BK1230.out 0;have hfz11_1:=blk_frozen BK1230.out 1)|((with_reducible refine gate_callee (f:=134) rfl ?_);refine goesL_ (some 5) rfl rfl Tryd.func134 (by kernel_rfl) rfl #[.agg #[.int .i64 a0_0,.slice A0_1 l0_1.length c0_1]] rfl au_ ?_;(with_reducible refine (impl_isInterval.calls k a0_0 _ _ l0_1 false _ ?side1 ?side2 ?side3 A2.out).mono ?_);(case side1=>exact cl_ (Kd.C_below HR0_1.out HB.out));(case side2=>exact HC0_1.out);(case side3=>first|exact HT.out|exact HT.out.below bb_|(repeat (first|exact HT.out|apply TabOK.drewN|apply TabOK.drew|apply TabOK.alloc)));rintro e w12 ⟨rfl,hb⟩;refine ⟨_,rfl,?_⟩;replace BK1230:=bz BK1230 hb;replace HB:=A_ (below_step bb_ hb);(try clear hb);(try clear hb2);(try clear hk);(try clear hi)))
  go_ret2
  exact ⟨_,by first|rfl|(simp [errW_none,errW_some] <;> rfl)|(simp [*,errW_none,errW_some] <;> rfl),by first|exact Kd.R_nil _ _ _ _ _|exact Kd.N_nil _ _ _ _ _|exact Kd.V_nil _ _ _ _ _|exact Kd.Q_nil _ _ _ _ _|exact Kd.S_nil _ _ _ _ _,bb_⟩
def spec_orHas.f (a0 : Int) (a1 : Int) : Option (Bool) := if 0 ≤ a1 then (some ((Int.tmod (shr .i64 a0 a1) 2) == 1)) else (none)
set_option maxHeartbeats 8000000 in
set_option maxRecDepth 100000 in
theorem spec_orHas.calls (a0 : Int) (a1 : Int) (r : Bool) (w : World) (h : spec_orHas.f a0 a1 = some r) :
 Calls Tryd.prog 192 #[.int .i64 a0,.int .i64 a1] w fun e w'=>e = .returned (.bool r) ∧ Drawn0 w w':=by
 have H : (if 0 ≤ a1 then (some ((Int.tmod (shr .i64 a0 a1) 2) == 1)) else (none)) = some r:=h;clear h;by_cases c3 : 0 ≤ a1
 ·rw [if_pos c3] at H;have c3b0:=eq_true c3;have c3b1 : decide (0 ≤ a1) = true:=decide_eq_true c3;clear c3;obtain ⟨ji4,hji4⟩ : ∃ j_ : Int,(shr .i64 a0 a1) = j_:=⟨_,rfl⟩;replace H : (some ((Int.tmod (ji4) 2) == 1)) = some r:=by first|(rw [hji4] at H;exact H)|(simp only [hji4] at H ⊢;exact H)
  have hji4_ : (a0 / 2 ^ min a1.toNat 64) = ji4:=hji4;have hji4z : a1 ≤ 64 → (a0 / 2 ^ a1.toNat) = ji4:=shr_small hji4;obtain rfl:=Option.some.inj H;go_enter Tryd.func192,Tryd.ntmps192
  go_wp2
  go_ret
  exact ⟨by first|rfl|(simp;done)|(simp only [← hji4] <;> (first|rfl|simp))|(simp [*];done),by repeat (first|exact Drawn0.refl _|apply Drawn0.step)⟩
 ·rw [if_neg c3] at H;exact absurd H (by simp)
def spec_orList.l0 : Nat → Int → List Int → Int → Option (List Int)
 | 0,_,_,_=>none
 | k + 1,x0,x3,x4=>if 0 ≤ x4 then (if (shr .i64 x0 x4) > 0 then ((spec_orHas.f x0 x4).bind fun t103=>(if t103 = true then (if x3.length < 17592186044416 then (spec_orList.l0 k x0 (x3 ++ [x4]) (wrap64 (x4 + 1))) else (none)) else (spec_orList.l0 k x0 x3 (wrap64 (x4 + 1))))) else (some x3)) else (none)
def spec_orList.f (k : Nat) (a0 : Int) : Option (List Int) := spec_orList.l0 k a0 ([] : List Int) 0
set_option maxHeartbeats 8000000 in
set_option maxRecDepth 100000 in
theorem spec_orList.calls (k : Nat) (a0 : Int) (r : List Int) (w : World) (h : spec_orList.f k a0 = some r) :
 Calls Tryd.prog 191 #[.int .i64 a0] w fun e w'=>∃ v0_ : Value,e = .returned (v0_) ∧ Kd.R (Kd.int .i64) 3 w' w.heap.size (fun _=>True) v0_ r ∧ Below w.heap.size w w':=by
 have HB:=A_ (Below.refl w.heap.size w);have H : (spec_orList.l0 k a0 ([] : List Int) 0) = some r:=h;clear h;have H':=A_ H;clear H;go_enter Tryd.func191,Tryd.ntmps191
 go_wp2
 go_loopg [3,4] k (fun kq v3 v4 w'=>∃ (x3_1 : List Int) (x4_1 : Int),v4 = .int .i64 x4_1 ∧ Aside0 (spec_orList.l0 kq a0 x3_1 x4_1 = some r) ∧ Aside0 (kq ≤ k) ∧ Aside0 (Kd.R (Kd.int .i64) 3 w' w.heap.size (fun _=>True) v3 x3_1) ∧ Aside0 (Below w.heap.size w w'))
 case atStart=>exact ⟨(([] : List Int)),(0),(by first|rfl|(simp;done)|(simp [*];done)),H',⟨Nat.le_refl _⟩,⟨by first|exact Kd.R_nil _ _ _ _ _|exact Kd.N_nil _ _ _ _ _|exact Kd.V_nil _ _ _ _ _|exact Kd.Q_nil _ _ _ _ _|exact Kd.S_nil _ _ _ _ _⟩,⟨bb_⟩⟩
 case round =>
  clear H';try clear c1
  obtain ⟨x3_1,x4_1,rfl,HA,HK1,HO_3,HB⟩:=hrel;cases gk with
  | zero => exact absurd HA.out (by simp [spec_orList.l0])
  | succ k1 =>
   have H:=HA.out;clear HA;simp only [spec_orList.l0] at H
   by_cases c2 : 0 ≤ x4_1
   ·rw [if_pos c2] at H;have c2b0:=eq_true c2;have c2b1 : decide (0 ≤ x4_1) = true:=decide_eq_true c2;clear c2;obtain ⟨ji3,hji3⟩ : ∃ j_ : Int,(shr .i64 a0 x4_1) = j_:=⟨_,rfl⟩;replace H : (if (ji3) > 0 then ((spec_orHas.f a0 x4_1).bind fun t103=>(if t103 = true then (if x3_1.length < 17592186044416 then (spec_orList.l0 k1 a0 (x3_1 ++ [x4_1]) (wrap64 (x4_1 + 1))) else (none)) else (spec_orList.l0 k1 a0 x3_1 (wrap64 (x4_1 + 1))))) else (some x3_1)) = some r:=by first|(rw [hji3] at H;exact H)|(simp only [hji3] at H ⊢;exact H)
    have hji3_ : (a0 / 2 ^ min x4_1.toNat 64) = ji3:=hji3;have hji3z : x4_1 ≤ 64 → (a0 / 2 ^ x4_1.toNat) = ji3:=shr_small hji3;by_cases c4 : (ji3) > 0
    ·rw [if_pos c4] at H;have c4b0 : decide (0 < (ji3)) = true:=decide_eq_true c4;clear c4;replace H:=Option.bind_eq_some_iff.mp H;obtain ⟨t103,A50,H⟩:=H;replace H : (if t103 = true then (if x3_1.length < 17592186044416 then (spec_orList.l0 k1 a0 (x3_1 ++ [x4_1]) (wrap64 (x4_1 + 1))) else (none)) else (spec_orList.l0 k1 a0 x3_1 (wrap64 (x4_1 + 1)))) = some r:=H;have A5:=A_ A50;clear A50;by_cases c6 : t103 = true
     ·subst c6;have H1 : (if x3_1.length < 17592186044416 then (spec_orList.l0 k1 a0 (x3_1 ++ [x4_1]) (wrap64 (x4_1 + 1))) else (none)) = some r:=by rw [if_pos rfl] at H;exact H
      clear H;have H:=H1;clear H1;by_cases c7 : x3_1.length < 17592186044416
      ·rw [if_pos c7] at H;have LMc7:=A_ c7;clear c7;obtain ⟨y104,hy104⟩ : ∃ y_ : List Int,y_ = (x3_1 ++ [x4_1]):=⟨_,rfl⟩;replace H : (spec_orList.l0 k1 a0 y104 (wrap64 (x4_1 + 1))) = some r:=by first|(rw [hy104];with_reducible exact H)|(have H2_:=(Option.bind_some _ _).symm.trans H;rw [hy104];with_reducible exact H2_)|(have H2_:=(Option.bind_some _ _).symm.trans H;with_reducible exact H2_)|with_reducible exact H|(rw [hy104];exact H)|exact H
       have Ny104:=A_ hy104;clear hy104;have H':=A_ H;clear H;go_wp2_with (first|((with_reducible refine gate_callee (f:=192) rfl ?_);refine goesL_ (some 13) rfl rfl Tryd.func192 (by kernel_rfl) rfl #[.int .i64 a0,.int .i64 x4_1] rfl au_ ?_;(with_reducible refine (spec_orHas.calls a0 x4_1 true _ A5.out).mono ?_);rintro e w' ⟨rfl,⟨nd,rfl⟩⟩;refine ⟨_,rfl,?_⟩)|((with_reducible refine gate_builtin (b:=.append) (xs:=#[.tmp 14,.tmp 16]) rfl ?_);at_builtin;refine Kd.R_append (Kd.int .i64) (w0:=w) w.heap.size rfl (.tmp 14) (.tmp 16) 22 3 (.int .i64 0) 8 rfl Tryd.underlying22 info3 rfl (by decide) (by omega) u3 x3_1 x4_1 [.int .i64 x4_1] (fun _=>True) (fun _=>False) rfl rfl ?aP (fun _ hk=>hk.elim) ?aF ?aO ?aB ?aS ?aL ?_;(case aP=>exact rfl);(case aB=>exact bb_);(case aF=>exact (fun _ _=>trivial));(case aO=>exact (rl_ HO_3));(case aS=>exact (below_size bb_));(case aL=>have:=LMc7.out;omega);intro v105 w8 ho hb hg hat;rw [← Ny104.out] at ho;replace HB:=A_ (hb);have HO106:=A_ (ho);clear HO_3;clear ho hb hg hat))
       go_roundg k1
       case measure=>have:=HK1.out;omega
       case rel=>exact ⟨(y104),(wrap64 (x4_1 + 1)),(by first|rfl|(simp;done)|(simp [*];done)),H',⟨by have:=HK1.out;omega⟩,⟨by (with_reducible repeat (first|apply Kd.R_alloc|apply Kd.R_drewN|apply Kd.R_drew));exact HO106.out⟩,⟨bb_⟩⟩
      ·rw [if_neg c7] at H;exact absurd H (by simp)
     ·replace c6:=Bool.eq_false_iff.mpr c6;subst c6;have H1 : (spec_orList.l0 k1 a0 x3_1 (wrap64 (x4_1 + 1))) = some r:=by rw [if_neg (show ¬ (false = true) by decide)] at H;exact H
      clear H;have H:=H1;clear H1;have H':=A_ H;clear H;go_wp2_with (first|((with_reducible refine gate_callee (f:=192) rfl ?_);refine goesL_ (some 13) rfl rfl Tryd.func192 (by kernel_rfl) rfl #[.int .i64 a0,.int .i64 x4_1] rfl au_ ?_;(with_reducible refine (spec_orHas.calls a0 x4_1 false _ A5.out).mono ?_);rintro e w' ⟨rfl,⟨nd,rfl⟩⟩;refine ⟨_,rfl,?_⟩))
      go_roundg k1
      case measure=>have:=HK1.out;omega
      case rel=>exact ⟨(x3_1),(wrap64 (x4_1 + 1)),(by first|rfl|(simp;done)|(simp [*];done)),H',⟨by have:=HK1.out;omega⟩,⟨by (with_reducible repeat (first|apply Kd.R_alloc|apply Kd.R_drewN|apply Kd.R_drew));exact HO_3.out⟩,⟨bb_⟩⟩
    ·rw [if_neg c4] at H;have c4b0 : decide (0 < (ji3)) = false:=decide_eq_false c4;clear c4;obtain rfl:=Option.some.inj H;go_wp2
     go_ret
     exact ⟨_,by first|rfl|(simp [errW_none,errW_some] <;> rfl)|(simp only [← hji3];first|rfl|(simp [errW_none,errW_some] <;> rfl))|(simp [*,errW_none,errW_some] <;> rfl),by (with_reducible repeat (first|apply Kd.R_alloc|apply Kd.R_drewN|apply Kd.R_drew));exact HO_3.out,bb_⟩
   ·rw [if_neg c2] at H;exact absurd H (by simp)
def spec_l1All.l0 : Nat → Int → Int → List Int → Int → Int → Option (Bool)
 | 0,_,_,_,_,_=>none
 | k + 1,x1,x2,x9,x10,x11=>if x11 < x10 then (if 0 ≤ x11 then (if x11 < (x9.length : Int) then ((spec_l1In.f (rd x9 x11) x1 x2).bind fun t108=>(if t108 = true then (spec_l1All.l0 k x1 x2 x9 x10 (wrap64 (x11 + 1))) else (some false))) else (none)) else (none)) else (some true)
def spec_l1All.f (k : Nat) (l0 : List Int) (a1 : Int) (a2 : Int) : Option (Bool) := spec_l1All.l0 k a1 a2 l0 (l0.length : Int) 0
set_option maxHeartbeats 8000000 in
set_option maxRecDepth 100000 in
theorem spec_l1All.calls (k : Nat) (A0 : Option Addr) (c0 : Nat) (l0 : List Int) (a1 : Int) (a2 : Int) (r : Bool) (w : World) (hr0 : Kd.C (Kd.int .i64) w A0 l0.length l0) (hc0 : l0.length ≤ c0) (h : spec_l1All.f k l0 a1 a2 = some r) :
 Calls Tryd.prog 214 #[.slice A0 l0.length c0,.int .i64 a1,.int .i64 a2] w fun e w'=>e = .returned (.bool r) ∧ Drawn0 w w':=by
 have HR0:=A_ hr0;have HC0:=A_ hc0;clear hr0 hc0;have H : (spec_l1All.l0 k a1 a2 l0 (l0.length : Int) 0) = some r:=h;clear h;have H':=A_ H;clear H;go_enter Tryd.func214,Tryd.ntmps214
 go_wp2
 go_loopg [11] k (fun kq v11 w'=>∃ (x11_1 : Int),v11 = .int .i64 x11_1 ∧ Aside0 (spec_l1All.l0 kq a1 a2 l0 (l0.length : Int) x11_1 = some r) ∧ Aside0 (kq ≤ k) ∧ Drawn0 w w')
 case atStart=>exact ⟨(0),(by first|rfl|(simp;done)|(simp [*];done)),H',⟨Nat.le_refl _⟩,by repeat (first|exact Drawn0.refl _|apply Drawn0.step)⟩
 case round =>
  clear H';try clear c2
  try clear p2
  obtain ⟨x11_1,rfl,HA,HK1,⟨m1,rfl⟩⟩:=hrel;cases gk with
  | zero => exact absurd HA.out (by simp [spec_l1All.l0])
  | succ k1 =>
   have H:=HA.out;clear HA;simp only [spec_l1All.l0] at H
   by_cases c4 : x11_1 < (l0.length : Int)
   ·rw [if_pos c4] at H;have c4b0 : decide (x11_1 < (l0.length : Int)) = true:=decide_eq_true c4;clear c4;by_cases c5 : 0 ≤ x11_1
    ·rw [if_pos c5] at H;have c5b0 : decide (0 ≤ x11_1) = true:=decide_eq_true c5;clear c5;by_cases c6 : x11_1 < (l0.length : Int)
     ·rw [if_pos c6] at H;have c6b0 : decide (x11_1 < (l0.length : Int)) = true:=decide_eq_true c6;clear c6;replace H:=Option.bind_eq_some_iff.mp H;obtain ⟨t108,A70,H⟩:=H;replace H : (if t108 = true then (spec_l1All.l0 k1 a1 a2 l0 (l0.length : Int) (wrap64 (x11_1 + 1))) else (some false)) = some r:=H;have A7:=A_ A70;clear A70;by_cases c8 : t108 = true
      ·subst c8;have H1 : (spec_l1All.l0 k1 a1 a2 l0 (l0.length : Int) (wrap64 (x11_1 + 1))) = some r:=by rw [if_pos rfl] at H;exact H
       clear H;have H:=H1;clear H1;have H':=A_ H;clear H;have p107 : 0 ≤ (x11_1 : Int):=of_decide_eq_true (by first|(with_reducible assumption)|assumption);have q107 : x11_1 < (l0.length : Int):=of_decide_eq_true (by first|(with_reducible assumption)|assumption);obtain ⟨ad107,e107,hx107_0⟩:=Kd.at_int HR0.out x11_1 p107 q107;cases e107
       replace p107:=eq_true p107;replace q107:=eq_true q107;go_wp2_with (first|((with_reducible refine gate_callee (f:=127) rfl ?_);refine goesL_ (some 18) rfl rfl Tryd.func127 (by kernel_rfl) rfl #[.int .i64 (rd l0 x11_1),.int .i64 a1,.int .i64 a2] rfl au_ ?_;(with_reducible refine (spec_l1In.calls (rd l0 x11_1) a1 a2 true _ A7.out).mono ?_);rintro e w' ⟨rfl,⟨nd,rfl⟩⟩;refine ⟨_,rfl,?_⟩))
       go_roundg k1
       case measure=>have:=HK1.out;omega
       case rel=>exact ⟨(wrap64 (x11_1 + 1)),(by first|rfl|(simp;done)|(simp [*];done)),H',⟨by have:=HK1.out;omega⟩,by repeat (first|exact Drawn0.refl _|apply Drawn0.step)⟩
      ·replace c8:=Bool.eq_false_iff.mpr c8;subst c8;have H1 : (some false) = some r:=by rw [if_neg (show ¬ (false = true) by decide)] at H;exact H
       clear H;have H:=H1;clear H1;obtain rfl:=Option.some.inj H;have p107 : 0 ≤ (x11_1 : Int):=of_decide_eq_true (by first|(with_reducible assumption)|assumption);have q107 : x11_1 < (l0.length : Int):=of_decide_eq_true (by first|(with_reducible assumption)|assumption);obtain ⟨ad107,e107,hx107_0⟩:=Kd.at_int HR0.out x11_1 p107 q107;cases e107
       replace p107:=eq_true p107;replace q107:=eq_true q107;go_wp2_with (first|((with_reducible refine gate_callee (f:=127) rfl ?_);refine goesL_ (some 18) rfl rfl Tryd.func127 (by kernel_rfl) rfl #[.int .i64 (rd l0 x11_1),.int .i64 a1,.int .i64 a2] rfl au_ ?_;(with_reducible refine (spec_l1In.calls (rd l0 x11_1) a1 a2 false _ A7.out).mono ?_);rintro e w' ⟨rfl,⟨nd,rfl⟩⟩;refine ⟨_,rfl,?_⟩))
       go_ret
       exact ⟨by first|rfl|(simp;done)|(simp [*];done),by repeat (first|exact Drawn0.refl _|apply Drawn0.step)⟩
     ·rw [if_neg c6] at H;exact absurd H (by simp)
    ·rw [if_neg c5] at H;exact absurd H (by simp)
   ·rw [if_neg c4] at H;have c4b0 : decide (x11_1 < (l0.length : Int)) = false:=decide_eq_false c4;clear c4;obtain rfl:=Option.some.inj H;go_wp2
    go_ret
    exact ⟨by first|rfl|(simp;done)|(simp [*];done),by repeat (first|exact Drawn0.refl _|apply Drawn0.step)⟩
def spec_orRelation.f (k : Nat) (a0_0 : Int) (l0_1 : List Int) : Option (Bool) := (spec_l1In.f a0_0 0 10).bind fun t110 => (if t110 = true then (if (l0_1.length : Int) = a0_0 then (if 0 ≤ a0_0 then ((spec_l1All.f k l0_1 0 (wrap64 ((shl .i64 1 a0_0) - 1))).bind fun t111 => (some t111)) else (none)) else (some false)) else (some false))
set_option maxHeartbeats 8000000 in
set_option maxRecDepth 100000 in
theorem spec_orRelation.calls (k : Nat) (a0_0 : Int) (A0_1 : Option Addr) (c0_1 : Nat) (l0_1 : List Int) (r : Bool) (w : World) (hr0_1 : Kd.C (Kd.int .i64) w A0_1 l0_1.length l0_1) (hc0_1 : l0_1.length ≤ c0_1) (h : spec_orRelation.f k a0_0 l0_1 = some r) :
 Calls Tryd.prog 207 #[.agg #[.int .i64 a0_0,.slice A0_1 l0_1.length c0_1]] w fun e w'=>e = .returned (.bool r) ∧ Below w.heap.size w w':=by
 have hu28:=Tryd.underlying28;have HR0_1:=A_ hr0_1;have HC0_1:=A_ hc0_1;clear hr0_1 hc0_1;have HB:=A_ (Below.refl w.heap.size w);have H : ((spec_l1In.f a0_0 0 10).bind fun t110=>(if t110 = true then (if (l0_1.length : Int) = a0_0 then (if 0 ≤ a0_0 then ((spec_l1All.f k l0_1 0 (wrap64 ((shl .i64 1 a0_0) - 1))).bind fun t111=>(some t111)) else (none)) else (some false)) else (some false))) = some r:=h;clear h;replace H:=Option.bind_eq_some_iff.mp H;obtain ⟨t110,A20,H⟩:=H;replace H : (if t110 = true then (if (l0_1.length : Int) = a0_0 then (if 0 ≤ a0_0 then ((spec_l1All.f k l0_1 0 (wrap64 ((shl .i64 1 a0_0) - 1))).bind fun t111=>(some t111)) else (none)) else (some false)) else (some false)) = some r:=H;have A2:=A_ A20;clear A20;by_cases c3 : t110 = true
 ·subst c3;have H1 : (if (l0_1.length : Int) = a0_0 then (if 0 ≤ a0_0 then ((spec_l1All.f k l0_1 0 (wrap64 ((shl .i64 1 a0_0) - 1))).bind fun t111=>(some t111)) else (none)) else (some false)) = some r:=by rw [if_pos rfl] at H;exact H
  clear H;have H:=H1;clear H1;by_cases c4 : (l0_1.length : Int) = a0_0
  ·rw [if_pos c4] at H;have c4b0 : ((l0_1.length : Int) == a0_0) = true:=beq_iff_eq.mpr c4;have c4b1 : ((l0_1.length : Int) != a0_0) = false:=bne_eq_false_iff_eq.mpr c4;clear c4;by_cases c5 : 0 ≤ a0_0
   ·rw [if_pos c5] at H;have c5b0:=eq_true c5;have c5b1 : decide (0 ≤ a0_0) = true:=decide_eq_true c5;clear c5;obtain ⟨ji6,hji6⟩ : ∃ j_ : Int,(shl .i64 1 a0_0) = j_:=⟨_,rfl⟩;replace H : ((spec_l1All.f k l0_1 0 (wrap64 ((ji6) - 1))).bind fun t111=>(some t111)) = some r:=by first|(rw [hji6] at H;exact H)|(simp only [hji6] at H ⊢;exact H)
    (try rw [hji6] at A2);have hji6_ : (IntKind.i64.wrap (1 * 2 ^ min a0_0.toNat 64)) = ji6:=hji6;have hji6z : a0_0 ≤ 64 → (IntKind.i64.wrap (1 * 2 ^ a0_0.toNat)) = ji6:=shl_small hji6;have hji6u : (IntKind.i64.wrap (2 ^ min a0_0.toNat 64)) = ji6:=by have h_:=hji6_;rw [Int.one_mul] at h_;exact h_
    have hji6v : a0_0 ≤ 64 → (IntKind.i64.wrap (2 ^ a0_0.toNat)) = ji6:=fun hle_=>by have h_:=hji6z hle_;rw [Int.one_mul] at h_;exact h_
    have hji6y : (wrap64 (1 * 2 ^ min a0_0.toNat 64)) = ji6:=(i64_w _).symm.trans hji6_;have hji6x : a0_0 ≤ 64 → (wrap64 (1 * 2 ^ a0_0.toNat)) = ji6:=fun h_=>(i64_w _).symm.trans (hji6z h_)
    replace H:=Option.bind_eq_some_iff.mp H;obtain ⟨t111,A70,H⟩:=H;replace H : (some t111) = some r:=H;have A7:=A_ A70;clear A70;obtain rfl:=Option.some.inj H;go_enter Tryd.func207,Tryd.ntmps207
    go_wp2_with (first|((with_reducible refine gate_dst (N:=1) rfl ?_);(try (refine gate_guard (by rfl) ?_;dsimp only));refine box_event ?hg (N:=1) ?hd (cs:=#[.int .i64 a0_0,.slice A0_1 l0_1.length c0_1]) (t:=28) ?hr ?_;(case hd=>rfl);(case hg=>rfl);(case hr=>first|(go_simp;done)|(go_simp;rfl));intro gb109 hg w8 hbox hb;have BK109:=A_ (hbox);have GW109:=A_ ((by rw [hg];exact (below_size bb_) : w.heap.size ≤ gb109));have GE109:=A_ ((by rw [hg];exact (below_size bb_) : w.heap.size ≤ gb109));replace HB:=A_ (below_step bb_ hb);clear hb hbox hg;have hcz9_0 : w8.cell? ⟨gb109,0,none⟩ = some (.int .i64 a0_0):=blk_cell BK109.out 0;have hcz9_1 : w8.cell? ⟨gb109,1,none⟩ = some (.slice A0_1 l0_1.length c0_1):=blk_cell BK109.out 1;have hfz9_0:=blk_frozen BK109.out 0;have hfz9_1:=blk_frozen BK109.out 1)|(go_at_call 127;(with_reducible refine (spec_l1In.calls a0_0 0 10 true _ A2.out).mono ?_);rintro e w' ⟨rfl,⟨nd,rfl⟩⟩;(try first|exact ⟨rfl,_,World.drewN_drewN _ _ _⟩|exact ⟨rfl,_,Eq.trans (World.drewN_drewN _ _ _) (congrArg (World.drewN _) (Nat.add_assoc _ _ _))⟩))|(go_at_call 214;(with_reducible refine (spec_l1All.calls k _ _ l0_1 0 (wrap64 ((ji6) - 1)) t111 _ ?side1 ?side2 A7.out).mono ?_);(case side1=>exact cl_ (Kd.C_below HR0_1.out bb_));(case side2=>exact HC0_1.out);rintro e w' ⟨rfl,⟨nd,rfl⟩⟩;(try first|exact ⟨rfl,_,World.drewN_drewN _ _ _⟩|exact ⟨rfl,_,Eq.trans (World.drewN_drewN _ _ _) (congrArg (World.drewN _) (Nat.add_assoc _ _ _))⟩)))
    repeat (go_quiet (first|((with_reducible refine gate_dst (N:=1) rfl ?_);(try (refine gate_guard (by rfl) ?_;dsimp only));refine box_event ?hg (N:=1) ?hd (cs:=#[.int .i64 a0_0,.slice A0_1 l0_1.length c0_1]) (t:=28) ?hr ?_;(case hd=>rfl);(case hg=>rfl);(case hr=>first|(go_simp;done)|(go_simp;rfl));intro gb109 hg w8 hbox hb;have BK109:=A_ (hbox);have GW109:=A_ ((by rw [hg];exact (below_size bb_) : w.heap.size ≤ gb109));have GE109:=A_ ((by rw [hg];exact (below_size bb_) : w.heap.size ≤ gb109));replace HB:=A_ (below_step bb_ hb);clear hb hbox hg;have hcz9_0 : w8.cell? ⟨gb109,0,none⟩ = some (.int .i64 a0_0):=blk_cell BK109.out 0;have hcz9_1 : w8.cell? ⟨gb109,1,none⟩ = some (.slice A0_1 l0_1.length c0_1):=blk_cell BK109.out 1;have hfz9_0:=blk_frozen BK109.out 0;have hfz9_1:=blk_frozen BK109.out 1)|(go_at_call 127;(with_reducible refine (spec_l1In.calls a0_0 0 10 true _ A2.out).mono ?_);rintro e w' ⟨rfl,⟨nd,rfl⟩⟩;(try first|exact ⟨rfl,_,World.drewN_drewN _ _ _⟩|exact ⟨rfl,_,Eq.trans (World.drewN_drewN _ _ _) (congrArg (World.drewN _) (Nat.add_assoc _ _ _))⟩))|(go_at_call 214;(with_reducible refine (spec_l1All.calls k _ _ l0_1 0 (wrap64 ((ji6) - 1)) t111 _ ?side1 ?side2 A7.out).mono ?_);(case side1=>exact cl_ (Kd.C_below HR0_1.out bb_));(case side2=>exact HC0_1.out);rintro e w' ⟨rfl,⟨nd,rfl⟩⟩;(try first|exact ⟨rfl,_,World.drewN_drewN _ _ _⟩|exact ⟨rfl,_,Eq.trans (World.drewN_drewN _ _ _) (congrArg (World.drewN _) (Nat.add_assoc _ _ _))⟩)));try go_wp2_with (first|((with_reducible refine gate_dst (N:=1) rfl ?_);(try (refine gate_guard (by rfl) ?_;dsimp only));refine box_event ?hg (N:=1) ?hd (cs:=#[.int .i64 a0_0,.slice A0_1 l0_1.length c0_1]) (t:=28) ?hr ?_;(case hd=>rfl);(case hg=>rfl);(case hr=>first|(go_simp;done)|(go_simp;rfl));intro gb109 hg w8 hbox hb;have BK109:=A_ (hbox);have GW109:=A_ ((by rw [hg];exact (below_size bb_) : w.heap.size ≤ gb109));have GE109:=A_ ((by rw [hg];exact (below_size bb_) : w.heap.size ≤ gb109));replace HB:=A_ (below_step bb_ hb);clear hb hbox hg;have hcz9_0 : w8.cell? ⟨gb109,0,none⟩ = some (.int .i64 a0_0):=blk_cell BK109.out 0;have hcz9_1 : w8.cell? ⟨gb109,1,none⟩ = some (.slice A0_1 l0_1.length c0_1):=blk_cell BK109.out 1;have hfz9_0:=blk_frozen BK109.out 0;have hfz9_1:=blk_frozen BK109.out 1)|(go_at_call 127;(with_reducible refine (spec_l1In.calls a0_0 0 10 true _ A2.out).mono ?_);rintro e w' ⟨rfl,⟨nd,rfl⟩⟩;(try first|exact ⟨rfl,_,World.drewN_drewN _ _ _⟩|exact ⟨rfl,_,Eq.trans (World.drewN_drewN _ _ _) (congrArg (World.drewN _) (Nat.add_assoc _ _ _))⟩))|(go_at_call 214;(with_reducible refine (spec_l1All.calls k _ _ l0_1 0 (wrap64 ((ji6) - 1)) t111 _ ?side1 ?side2 A7.out).mono ?_);(case side1=>exact cl_ (Kd.C_below HR0_1.out bb_));(case side2=>exact HC0_1.out);rintro e w' ⟨rfl,⟨nd,rfl⟩⟩;(try first|exact ⟨rfl,_,World.drewN_drewN _ _ _⟩|exact ⟨rfl,_,Eq.trans (World.drewN_drewN _ _ _) (congrArg (World.drewN _) (Nat.add_assoc _ _ _))⟩))))
    go_ret
    exact ⟨by first|rfl|(simp [errW_none,errW_some] <;> rfl)|(simp only [← hji6];first|rfl|(simp [errW_none,errW_some] <;> rfl))|(simp [*,errW_none,errW_some] <;> rfl),bb_⟩
   ·rw [if_neg c5] at H;exact absurd H (by simp)
  ·rw [if_neg c4] at H;have c4b0 : ((l0_1.length : Int) == a0_0) = false:=beq_eq_false_iff_ne.mpr c4;have c4b1 : ((l0_1.length : Int) != a0_0) = true:=bne_iff_ne.mpr c4;obtain rfl:=Option.some.inj H;go_enter Tryd.func207,Tryd.ntmps207
   go_wp2_with (first|((with_reducible refine gate_dst (N:=1) rfl ?_);(try (refine gate_guard (by rfl) ?_;dsimp only));refine box_event ?hg (N:=1) ?hd (cs:=#[.int .i64 a0_0,.slice A0_1 l0_1.length c0_1]) (t:=28) ?hr ?_;(case hd=>rfl);(case hg=>rfl);(case hr=>first|(go_simp;done)|(go_simp;rfl));intro gb109 hg w10 hbox hb;have BK109:=A_ (hbox);have GW109:=A_ ((by rw [hg];exact (below_size bb_) : w.heap.size ≤ gb109));have GE109:=A_ ((by rw [hg];exact (below_size bb_) : w.heap.size ≤ gb109));replace HB:=A_ (below_step bb_ hb);clear hb hbox hg;have hcz11_0 : w10.cell? ⟨gb109,0,none⟩ = some (.int .i64 a0_0):=blk_cell BK109.out 0;have hcz11_1 : w10.cell? ⟨gb109,1,none⟩ = some (.slice A0_1 l0_1.length c0_1):=blk_cell BK109.out 1;have hfz11_0:=blk_frozen BK109.out 0;have hfz11_1:=blk_frozen BK109.out 1)|(go_at_call 127;(with_reducible refine (spec_l1In.calls a0_0 0 10 true _ A2.out).mono ?_);rintro e w' ⟨rfl,⟨nd,rfl⟩⟩;(try first|exact ⟨rfl,_,World.drewN_drewN _ _ _⟩|exact ⟨rfl,_,Eq.trans (World.drewN_drewN _ _ _) (congrArg (World.drewN _) (Nat.add_assoc _ _ _))⟩)))
   repeat (go_quiet (first|((with_reducible refine gate_dst (N:=1) rfl ?_);(try (refine gate_guard (by rfl) ?_;dsimp only));refine box_event ?hg (N:=1) ?hd (cs:=#[.int .i64 a0_0,.slice A0_1 l0_1.length c0_1]) (t:=28) ?hr ?_;(case hd=>rfl);(case hg=>rfl);(case hr=>first|(go_simp;done)|(go_simp;rfl));intro gb109 hg w10 hbox hb;have BK109:=A_ (hbox);have GW109:=A_ ((by rw [hg];exact (below_size bb_) : w.heap.size ≤ gb109));have GE109:=A_ ((by rw [hg];exact (below_size bb_) : w.heap.size ≤ gb109));replace HB:=A_ (below_step bb_ hb);clear hb hbox hg;have hcz11_0 : w10.cell? ⟨gb109,0,none⟩ = some (.int .i64 a0_0):=blk_cell BK109.out 0;have hcz11_1 : w10.cell? ⟨gb109,1,none⟩ = some (.slice A0_1 l0_1.length c0_1):=blk_cell BK109.out 1;have hfz11_0:=blk_frozen BK109.out 0;have hfz11_1:=blk_frozen BK109.out 1)|(go_at_call 127;(with_reducible refine (spec_l1In.calls a0_0 0 10 true _ A2.out).mono ?_);rintro e w' ⟨rfl,⟨nd,rfl⟩⟩;(try first|exact ⟨rfl,_,World.drewN_drewN _ _ _⟩|exact ⟨rfl,_,Eq.trans (World.drewN_drewN _ _ _) (congrArg (World.drewN _) (Nat.add_assoc _ _ _))⟩)));try go_wp2_with (first|((with_reducible refine gate_dst (N:=1) rfl ?_);(try (refine gate_guard (by rfl) ?_;dsimp only));refine box_event ?hg (N:=1) ?hd (cs:=#[.int .i64 a0_0,.slice A0_1 l0_1.length c0_1]) (t:=28) ?hr ?_;(case hd=>rfl);(case hg=>rfl);(case hr=>first|(go_simp;done)|(go_simp;rfl));intro gb109 hg w10 hbox hb;have BK109:=A_ (hbox);have GW109:=A_ ((by rw [hg];exact (below_size bb_) : w.heap.size ≤ gb109));have GE109:=A_ ((by rw [hg];exact (below_size bb_) : w.heap.size ≤ gb109));replace HB:=A_ (below_step bb_ hb);clear hb hbox hg;have hcz11_0 : w10.cell? ⟨gb109,0,none⟩ = some (.int .i64 a0_0):=blk_cell BK109.out 0;have hcz11_1 : w10.cell? ⟨gb109,1,none⟩ = some (.slice A0_1 l0_1.length c0_1):=blk_cell BK109.out 1;have hfz11_0:=blk_frozen BK109.out 0;have hfz11_1:=blk_frozen BK109.out 1)|(go_at_call 127;(with_reducible refine (spec_l1In.calls a0_0 0 10 true _ A2.out).mono ?_);rintro e w' ⟨rfl,⟨nd,rfl⟩⟩;(try first|exact ⟨rfl,_,World.drewN_drewN _ _ _⟩|exact ⟨rfl,_,Eq.trans (World.drewN_drewN _ _ _) (congrArg (World.drewN _) (Nat.add_assoc _ _ _))⟩))))
   go_ret
   exact ⟨by first|rfl|(simp [errW_none,errW_some] <;> rfl)|(simp [*,errW_none,errW_some] <;> rfl),bb_⟩
 ·replace c3:=Bool.eq_false_iff.mpr c3;subst c3;have H1 : (some false) = some r:=by rw [if_neg (show ¬ (false = true) by decide)] at H;exact H
  clear H;have H:=H1;clear H1;obtain rfl:=Option.some.inj H;go_enter Tryd.func207,Tryd.ntmps207
  go_wp2_with (first|((with_reducible refine gate_dst (N:=1) rfl ?_);(try (refine gate_guard (by rfl) ?_;dsimp only));refine box_event ?hg (N:=1) ?hd (cs:=#[.int .i64 a0_0,.slice A0_1 l0_1.length c0_1]) (t:=28) ?hr ?_;(case hd=>rfl);(case hg=>rfl);(case hr=>first|(go_simp;done)|(go_simp;rfl));intro gb109 hg w12 hbox hb;have BK109:=A_ (hbox);have GW109:=A_ ((by rw [hg];exact (below_size bb_) : w.heap.size ≤ gb109));have GE109:=A_ ((by rw [hg];exact (below_size bb_) : w.heap.size ≤ gb109));replace HB:=A_ (below_step bb_ hb);clear hb hbox hg;have hcz13_0 : w12.cell? ⟨gb109,0,none⟩ = some (.int .i64 a0_0):=blk_cell BK109.out 0;have hcz13_1 : w12.cell? ⟨gb109,1,none⟩ = some (.slice A0_1 l0_1.length c0_1):=blk_cell BK109.out 1;have hfz13_0:=blk_frozen BK109.out 0;have hfz13_1:=blk_frozen BK109.out 1)|(go_at_call 127;(with_reducible refine (spec_l1In.calls a0_0 0 10 false _ A2.out).mono ?_);rintro e w' ⟨rfl,⟨nd,rfl⟩⟩;(try first|exact ⟨rfl,_,World.drewN_drewN _ _ _⟩|exact ⟨rfl,_,Eq.trans (World.drewN_drewN _ _ _) (congrArg (World.drewN _) (Nat.add_assoc _ _ _))⟩)))
  repeat (go_quiet (first|((with_reducible refine gate_dst (N:=1) rfl ?_);(try (refine gate_guard (by rfl) ?_;dsimp only));refine box_event ?hg (N:=1) ?hd (cs:=#[.int .i64 a0_0,.slice A0_1 l0_1.length c0_1]) (t:=28) ?hr ?_;(case hd=>rfl);(case hg=>rfl);(case hr=>first|(go_simp;done)|(go_simp;rfl));intro gb109 hg w12 hbox hb;have BK109:=A_ (hbox);have GW109:=A_ ((by rw [hg];exact (below_size bb_) : w.heap.size ≤ gb109));have GE109:=A_ ((by rw [hg];exact (below_size bb_) : w.heap.size ≤ gb109));replace HB:=A_ (below_step bb_ hb);clear hb hbox hg;have hcz13_0 : w12.cell? ⟨gb109,0,none⟩ = some (.int .i64 a0_0):=blk_cell BK109.out 0;have hcz13_1 : w12.cell? ⟨gb109,1,none⟩ = some (.slice A0_1 l0_1.length c0_1):=blk_cell BK109.out 1;have hfz13_0:=blk_frozen BK109.out 0;have hfz13_1:=blk_frozen BK109.out 1)|(go_at_call 127;(with_reducible refine (spec_l1In.calls a0_0 0 10 false _ A2.out).mono ?_);rintro e w' ⟨rfl,⟨nd,rfl⟩⟩;(try first|exact ⟨rfl,_,World.drewN_drewN _ _ _⟩|exact ⟨rfl,_,Eq.trans (World.drewN_drewN _ _ _) (congrArg (World.drewN _) (Nat.add_assoc _ _ _))⟩)));try go_wp2_with (first|((with_reducible refine gate_dst (N:=1) rfl ?_);(try (refine gate_guard (by rfl) ?_;dsimp only));refine box_event ?hg (N:=1) ?hd (cs:=#[.int .i64 a0_0,.slice A0_1 l0_1.length c0_1]) (t:=28) ?hr ?_;(case hd=>rfl);(case hg=>rfl);(case hr=>first|(go_simp;done)|(go_simp;rfl));intro gb109 hg w12 hbox hb;have BK109:=A_ (hbox);have GW109:=A_ ((by rw [hg];exact (below_size bb_) : w.heap.size ≤ gb109));have GE109:=A_ ((by rw [hg];exact (below_size bb_) : w.heap.size ≤ gb109));replace HB:=A_ (below_step bb_ hb);clear hb hbox hg;have hcz13_0 : w12.cell? ⟨gb109,0,none⟩ = some (.int .i64 a0_0):=blk_cell BK109.out 0;have hcz13_1 : w12.cell? ⟨gb109,1,none⟩ = some (.slice A0_1 l0_1.length c0_1):=blk_cell BK109.out 1;have hfz13_0:=blk_frozen BK109.out 0;have hfz13_1:=blk_frozen BK109.out 1)|(go_at_call 127;(with_reducible refine (spec_l1In.calls a0_0 0 10 false _ A2.out).mono ?_);rintro e w' ⟨rfl,⟨nd,rfl⟩⟩;(try first|exact ⟨rfl,_,World.drewN_drewN _ _ _⟩|exact ⟨rfl,_,Eq.trans (World.drewN_drewN _ _ _) (congrArg (World.drewN _) (Nat.add_assoc _ _ _))⟩))))
  go_ret
  exact ⟨by first|rfl|(simp [errW_none,errW_some] <;> rfl)|(simp [*,errW_none,errW_some] <;> rfl),bb_⟩
end Go.Proofs.YtimjblnglhmakaaDoor.P

